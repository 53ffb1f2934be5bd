/- A leaf that traces, at one piece: the region that reckons. No condition. -/
import Derived.Test.YtpgodgfkbkfpcaaGreatTiq
set_option linter.unusedVariables false
set_option linter.unusedSimpArgs false
namespace Go.Proofs.YtpgodgfkbkfpcaaGreat.Tim
open Go.Shelf Go.RowKit Go.Proofs.YtpgodgfkbkfpcaaGreat.Trb Go.Proofs.YtpgodgfkbkfpcaaGreat.Bui
open Lathe (fadd fmul)
noncomputable def ops321 : Array Oper := opsIn Tryz.f321 14
def D321 (i : Nat) : Nat := if i < 11 then 63 + i else 12
def pz : List Value := [.int .i64 0, .int .i64 0, .bool false, .slice none 0 0, .slice none 0 0]
def T321 (B gk b9 gn : Nat) (gx cx gm cm : Nat) (r1 r2 : Int) (t : Nat) (v : Value) (w : World) : Prop :=
  if t = 63 then v = pc gx cx else if t = 64 then v = .pointer (some ⟨gk, 0, none⟩) else if t = 65 then v = .pointer (some ⟨gk, 0, none⟩) else if t = 66 then v = .pointer (some ⟨gk, 0, none⟩) else if t = 67 then v = pc gm cm
  else if t = 68 then v = .pointer (some ⟨b9, 1, none⟩) else if t = 69 then v = .slice (some ⟨gn, 0, none⟩) 1 1 else if t = 70 then v = .pointer (some ⟨gn, 0, none⟩) else if t = 71 then v = .int .u32 1056964608
  else if t = 72 then ∃ g c, v = pc g c ∧ w.cell? ⟨g, 0, none⟩ = some (.int .u32 r1)
  else if t = 73 then ∃ g c, v = pc g c ∧ B ≤ g ∧ w.cell? ⟨g, 0, none⟩ = some (.int .u32 r2)
  else ∃ g, v = .pointer (some ⟨g, 0, none⟩) ∧ B ≤ g ∧ w.heap[g]? = some (.cells pz.toArray 102 (0, 0))
theorem T321.on {B gk b9 gn gx cx gm cm : Nat} {r1 r2 : Int} {t : Nat} {v : Value} {w w' : World} (h : T321 B gk b9 gn gx cx gm cm r1 r2 t v w) (hB : Below w.heap.size w w') : T321 B gk b9 gn gx cx gm cm r1 r2 t v w' := by
  by_cases e1 : t = 72
  · subst e1
    obtain ⟨g, c, h1, h2⟩ : ∃ g c, v = pc g c ∧ w.cell? ⟨g, 0, none⟩ = some (.int .u32 r1) := h
    exact ⟨g, c, h1, (hB.cell (World.block_lt_of_cell? _ _ h2)).trans h2⟩
  · by_cases e2 : t = 73
    · subst e2
      obtain ⟨g, c, h1, h0, h2⟩ : ∃ g c, v = pc g c ∧ B ≤ g ∧ w.cell? ⟨g, 0, none⟩ = some (.int .u32 r2) := h
      exact ⟨g, c, h1, h0, (hB.cell (World.block_lt_of_cell? _ _ h2)).trans h2⟩
    · by_cases e3 : t = 63 ∨ t = 64 ∨ t = 65 ∨ t = 66 ∨ t = 67 ∨ t = 68 ∨ t = 69 ∨ t = 70 ∨ t = 71
      · rcases e3 with rfl | rfl | rfl | rfl | rfl | rfl | rfl | rfl | rfl <;> exact h
      · simp only [not_or] at e3
        obtain ⟨f1, f2, f3, f4, f5, f6, f7, f8, f9⟩ := e3
        unfold T321 at h ⊢
        simp only [e1, e2, f1, f2, f3, f4, f5, f6, f7, f8, f9, if_false] at h ⊢
        obtain ⟨g, h1, h2, h3⟩ := h
        exact ⟨g, h1, h2, heap_on h3 hB⟩
theorem f172_0 (g : Nat) (w : World) : (Instr.fieldAt 172 (.pointer (some ⟨g, 0, none⟩)) 0).run Tryz.prog w = .ok (.pointer (some ⟨g, 0, none⟩)) w := by kernel_rfl
theorem f30_1 (g : Nat) (w : World) : (Instr.fieldAt 30 (.pointer (some ⟨g, 0, none⟩)) 1).run Tryz.prog w = .ok (.pointer (some ⟨g, 1, none⟩)) w := by kernel_rfl
theorem load334 (w : World) (g k : Nat) (v : Value) (hc : w.cell? ⟨g, k, none⟩ = some v) : (Instr.loadAt 334 (.pointer (some ⟨g, k, none⟩))).run Tryz.prog w = .ok v w := by
  have hu := Tryz.underlying334
  simp [Instr.loadAt, Instr.sureAddr, loadVar, isAgg, run_underlying hu, hc]
theorem load81 (w : World) (g k : Nat) (v : Value) (hc : w.cell? ⟨g, k, none⟩ = some v) : (Instr.loadAt 81 (.pointer (some ⟨g, k, none⟩))).run Tryz.prog w = .ok v w := by
  have hu := Tryz.underlying81
  simp [Instr.loadAt, Instr.sureAddr, loadVar, isAgg, run_underlying hu, hc]
theorem ix22 (g c : Nat) (w : World) : (Instr.indexAt 22 (.slice (some ⟨g, 0, none⟩) 1 c) (.int .i64 0)).run Tryz.prog w = .ok (.pointer (some ⟨g, 0, none⟩)) w := by kernel_rfl
theorem load102 (w : World) (g : Nat) (v0 v1 v2 v3 v4 : Value) (h0 : w.cell? ⟨g, 0, none⟩ = some v0) (h1 : w.cell? ⟨g, 1, none⟩ = some v1) (h2 : w.cell? ⟨g, 2, none⟩ = some v2) (h3 : w.cell? ⟨g, 3, none⟩ = some v3) (h4 : w.cell? ⟨g, 4, none⟩ = some v4) :
    (loadVar 102 ⟨g, 0, none⟩).run Tryz.prog w = .ok (.agg #[v0, v1, v2, v3, v4]) w := by
  have hl : (loadCells ⟨g, 0, none⟩ 5).run Tryz.prog w = .ok #[v0, v1, v2, v3, v4] w :=
    run_loadCells_list (P := Tryz.prog) w ⟨g, 0, none⟩ [v0, v1, v2, v3, v4] (fun j v hv => by
      rw [Rin.add_zero]
      have hj : j < 5 := (List.getElem?_eq_some_iff.1 hv).1
      match j, hj with
      | 0, _ => injection hv with hv; subst hv; exact h0
      | 1, _ => injection hv with hv; subst hv; exact h1
      | 2, _ => injection hv with hv; subst hv; exact h2
      | 3, _ => injection hv with hv; subst hv; exact h3
      | 4, _ => injection hv with hv; subst hv; exact h4)
  have hq : Tryz.prog.info? 102 = some Tryz.t102 := by kernel_rfl
  have hs : Tryz.t102.size = 5 := by kernel_rfl
  have hagg : (isAgg 102).run Tryz.prog w = .ok true w := by
    unfold isAgg
    rw [Sem.run_bind, run_underlying Tryz.underlying102 w]
    rfl
  simp [loadVar, Sem.run_bind, hagg, sizeOf, typeInfo, hq, hs, hl]
noncomputable def tP : TypeInfo := (Tryz.prog.info? 102).get (by kernel_rfl)
theorem alloc102 (w : World) : (Instr.alloc 102 true (.tuple #[])).run Tryz.prog w = .ok (.pointer (some ⟨w.heap.size, 0, none⟩)) (w.alloc (.cells pz.toArray 102)) := by
  have h1 : Tryz.prog.info? 102 = some tP := by kernel_rfl
  have h2 : tP.zero = some (.agg pz.toArray) := by kernel_rfl
  simp [Instr.alloc, zeroValue, typeInfo, h1, h2, newVar, newRow, Value.cells]
theorem ent318 : ∀ vs w, (callFunc 318 vs).run Tryz.prog w = .ok (.enter 318 vs) w := enters_of Tryz.func318 (by kernel_rfl) rfl
theorem ent303 : ∀ vs w, (callFunc 303 vs).run Tryz.prog w = .ok (.enter 303 vs) w := enters_of Tryz.func303 (by kernel_rfl) rfl
/-- A kept piece. -/
structure Ke (w : World) (k g c : Nat) : Prop where
  c0 : w.cell? ⟨k, 0, none⟩ = some (.int .i64 0)
  c1 : w.cell? ⟨k, 1, none⟩ = some (.int .i64 0)
  c2 : w.cell? ⟨k, 2, none⟩ = some (.bool false)
  c3 : w.cell? ⟨k, 3, none⟩ = some (.slice (some ⟨g, 0, none⟩) 1 c)
  c4 : w.cell? ⟨k, 4, none⟩ = some (.slice none 0 0)
  fz : ∀ j, j < 5 → w.frozen? ⟨k, j, none⟩ = false
theorem Ke.same {w w' : World} {k g c : Nat} (h : Ke w k g c) (hb : w'.heap[k]? = w.heap[k]?) : Ke w' k g c :=
  ⟨(World.cell?_of_block hb).trans h.c0, (World.cell?_of_block hb).trans h.c1, (World.cell?_of_block hb).trans h.c2, (World.cell?_of_block hb).trans h.c3, (World.cell?_of_block hb).trans h.c4, fun j hj => (World.frozen?_of_block hb).trans (h.fz j hj)⟩
theorem Ke.on {w w' : World} {k g c : Nat} (h : Ke w k g c) (hB : Below w.heap.size w w') : Ke w' k g c := h.same (hB.block k (World.block_lt_of_cell? _ _ h.c0))
theorem loadAt102 {w : World} {k g c : Nat} (h : Ke w k g c) : (Instr.loadAt 102 (.pointer (some ⟨k, 0, none⟩))).run Tryz.prog w = .ok (pc g c) w := by
  have := load102 w k _ _ _ _ _ h.c0 h.c1 h.c2 h.c3 h.c4
  simp [Instr.loadAt, Instr.sureAddr, this, pc]
theorem store102 (w : World) (g : Nat) (v : Array Value) (hv : v.size = 5) (h1 : v.all (·.oneCell') = true) (hg : w.heap[g]? = some (.cells pz.toArray 102 (0, 0))) : (Instr.storeAt 102 (.pointer (some ⟨g, 0, none⟩)) (.agg v)).run Tryz.prog w = .ok () (w.setRow g v) := by
  have := run_storeVar_row (P := Tryz.prog) w g 102 102 pz.toArray v hg (by rw [hv]; kernel_rfl) (by rw [hv]; rfl) h1
  simp [Instr.storeAt, Instr.sureAddr, this]
set_option maxHeartbeats 1000000 in
set_option maxRecDepth 100000 in
theorem reg14 {Q : Exit → Act → World → Prop} {a0 : Act} {w0 : World} {gk b5 b6 b9 gn gx cx gm cm : Nat} {x m : Int}
    (hN : a0.tmps.size = 199) (h5 : a0.eval (.tmp 5) = .pointer (some ⟨b5, 0, none⟩)) (h6 : a0.eval (.tmp 6) = .pointer (some ⟨b6, 0, none⟩)) (h9 : a0.eval (.tmp 9) = .pointer (some ⟨b9, 0, none⟩))
    (g5 : w0.cell? ⟨b5, 0, none⟩ = some (.pointer (some ⟨gk, 0, none⟩))) (g6 : w0.heap[b6]? = some (.cells #[.int .i64 0, .int .i64 0, .bool false, .slice (some ⟨gx, 0, none⟩) 1 cx, .slice none 0 0] 102 (0, 0)))
    (g9 : w0.cell? ⟨b9, 1, none⟩ = some (.slice (some ⟨gn, 0, none⟩) 1 1)) (hk : Ke w0 gk gm cm) (hn : w0.cell? ⟨gn, 0, none⟩ = some (.int .u32 1056964608)) (hx : w0.cell? ⟨gx, 0, none⟩ = some (.int .u32 x)) (hm : w0.cell? ⟨gm, 0, none⟩ = some (.int .u32 m))
    (hQ : ∀ a w g c p, a.tmps.size = 199 → a.defers = a0.defers → (∀ t : Nat, t < 63 → t ≠ 12 → a.eval (.tmp t) = a0.eval (.tmp t)) → a.eval (.tmp 12) = .pointer (some ⟨p, 0, none⟩) → w0.heap.size ≤ p → w0.heap.size ≤ g → p ≠ g → w.heap[p]? = some (.cells #[.int .i64 0, .int .i64 0, .bool false, .slice (some ⟨g, 0, none⟩) 1 c, .slice none 0 0] 102 (0, 0)) → w.cell? ⟨g, 0, none⟩ = some (.int .u32 (fadd x.toNat (fmul 1056964608 m.toNat) : Nat)) → Below w0.heap.size w0 w → Q .normal a w) :
    (Code.region 14 ops321 true).wp Tryz.prog Q a0 w0 := by
  have hmx : Tryz.prog.follows .mixedOrders = true := by kernel_rfl
  refine Rin.wp_region_slots 12 199 D321 (T321 w0.heap.size gk b9 gn gx cx gm cm (fmul 1056964608 m.toNat : Nat) (fadd x.toNat (fmul 1056964608 m.toNat) : Nat)) hmx (by kernel_rfl) (by kernel_rfl) (by kernel_rfl) hN (by decide +kernel) (fun i j hi hj => (by decide +kernel : ∀ i, i < 12 → ∀ j, j < 12 → D321 i = D321 j → i = j) i hi j hj) (fun _ _ _ _ => T321.on) ?_ ?_
  · intro i o a w hi ho hR hS
    have hS' : ∀ k, k < 12 → ((ops321[i]?).map fun o => o.after.any fun e => e.on == k && Region.binds .any e) = some true → T321 w0.heap.size gk b9 gn gx cx gm cm (fmul 1056964608 m.toNat : Nat) (fadd x.toNat (fmul 1056964608 m.toNat) : Nat) (D321 k) (a.eval (.tmp (D321 k))) w := fun k hk he => hS k hk (by rw [ho] at he; simpa using he)
    clear hS ho o
    have rest : ∀ t : Nat, t < 63 → t ≠ 12 → a.eval (.tmp t) = a0.eval (.tmp t) := fun t ht h12 => hR.rest t (fun i hi e => by have e : (if i < 11 then 63 + i else 12 : Nat) = t := e; split at e <;> omega)
    have hB := hR.below
    match i, hi with
    | 0, _ => exact Rin.step_loadRow (d := some 63) (by kernel_rfl) b6 ((rest 6 (by omega) (by omega)).trans h6) 102 _ (0, 0) _ (heap_on g6 hB) Tryz.underlying102 rfl (by kernel_rfl) ⟨_, rfl, rfl, Below.refl _ _⟩
    | 1, _ => exact Rin.step_load (d := some 64) (t := 334) (x := .tmp 5) (by kernel_rfl) (.pointer (some ⟨gk, 0, none⟩)) (by rw [(rest 5 (by omega) (by omega)).trans h5]; exact load334 _ _ _ _ ((hB.cell (World.block_lt_of_cell? _ _ g5)).trans g5)) ⟨_, rfl, rfl, Below.refl _ _⟩
    | 2, _ =>
      have h64 : a.eval (.tmp 64) = .pointer (some ⟨gk, 0, none⟩) := hS' 1 (by omega) (by kernel_rfl)
      exact Rin.step_run (d := some 65) (op := .nilCheck (.tmp 64)) (by kernel_rfl) _ _ (nil_run h64) ⟨_, rfl, rfl, Below.refl _ _⟩
    | 3, _ =>
      have h65 : a.eval (.tmp 65) = .pointer (some ⟨gk, 0, none⟩) := hS' 2 (by omega) (by kernel_rfl)
      exact Rin.step_run (d := some 66) (op := .fieldAddr 172 (.tmp 65) 0) (by kernel_rfl) _ _ (field_run h65 (f172_0 _ _)) ⟨_, rfl, rfl, Below.refl _ _⟩
    | 4, _ =>
      have h66 : a.eval (.tmp 66) = .pointer (some ⟨gk, 0, none⟩) := hS' 3 (by omega) (by kernel_rfl)
      exact Rin.step_load (d := some 67) (t := 102) (x := .tmp 66) (by kernel_rfl) (pc gm cm) (by rw [h66]; exact loadAt102 (hk.on hB)) ⟨_, rfl, rfl, Below.refl _ _⟩
    | 5, _ => exact Rin.step_run (d := some 68) (op := .fieldAddr 30 (.tmp 9) 1) (by kernel_rfl) _ _ (field_run ((rest 9 (by omega) (by omega)).trans h9) (f30_1 _ _)) ⟨_, rfl, rfl, Below.refl _ _⟩
    | 6, _ =>
      have h68 : a.eval (.tmp 68) = .pointer (some ⟨b9, 1, none⟩) := hS' 5 (by omega) (by kernel_rfl)
      exact Rin.step_load (d := some 69) (t := 22) (x := .tmp 68) (by kernel_rfl) (.slice (some ⟨gn, 0, none⟩) 1 1) (by rw [h68]; exact load22 _ _ _ _ ((hB.cell (World.block_lt_of_cell? _ _ g9)).trans g9)) ⟨_, rfl, rfl, Below.refl _ _⟩
    | 7, _ =>
      have h69 : a.eval (.tmp 69) = .slice (some ⟨gn, 0, none⟩) 1 1 := hS' 6 (by omega) (by kernel_rfl)
      refine Rin.step_run (d := some 70) (op := .indexAddr 22 (.tmp 69) (.const (.int .i64 0))) (by kernel_rfl) (.pointer (some ⟨gn, 0, none⟩)) w (fun o ho => ?_) ⟨_, rfl, rfl, Below.refl _ _⟩
      have hr := ix22 gn 1 w
      unfold execOp
      have e0 : a.eval (.const (.int .i64 0)) = .int .i64 0 := rfl
      simp [ho, h69, e0, hr, Result.andThen]
    | 8, _ =>
      have h70 : a.eval (.tmp 70) = .pointer (some ⟨gn, 0, none⟩) := hS' 7 (by omega) (by kernel_rfl)
      exact Rin.step_load (d := some 71) (t := 81) (x := .tmp 70) (by kernel_rfl) (.int .u32 1056964608) (by rw [h70]; exact load81 _ _ _ _ ((hB.cell (World.block_lt_of_cell? _ _ hn)).trans hn)) ⟨_, rfl, rfl, Below.refl _ _⟩
    | 9, _ =>
      have h67 : a.eval (.tmp 67) = pc gm cm := hS' 4 (by omega) (by kernel_rfl)
      have h71 : a.eval (.tmp 71) = .int .u32 1056964608 := hS' 8 (by omega) (by kernel_rfl)
      refine Rin.step_call (args := [.tmp 67, .tmp 71]) (ts := #[102, 81]) (d := some 72) (by kernel_rfl) ent318 ?_
      show Calls _ 318 #[a.eval (.tmp 67), a.eval (.tmp 71)] _ _
      rw [h67, h71]
      refine (times gm cm 1056964608 m w ((hB.cell (World.block_lt_of_cell? _ _ hm)).trans hm)).mono ?_
      rintro e w' ⟨⟨g', c', rfl, hg', hc'⟩, hb⟩
      exact ⟨_, rfl, _, rfl, ⟨g', c', rfl, hc'⟩, hb⟩
    | 10, _ =>
      have h63 : a.eval (.tmp 63) = pc gx cx := hS' 0 (by omega) (by kernel_rfl)
      obtain ⟨g, c, h72, hc⟩ : ∃ g c, a.eval (.tmp 72) = pc g c ∧ w.cell? ⟨g, 0, none⟩ = some (.int .u32 (fmul 1056964608 m.toNat : Nat)) := hS' 9 (by omega) (by kernel_rfl)
      refine Rin.step_call (args := [.tmp 63, .tmp 72]) (ts := #[102, 102]) (d := some 73) (by kernel_rfl) ent303 ?_
      show Calls _ 303 #[a.eval (.tmp 63), a.eval (.tmp 72)] _ _
      rw [h63, h72]
      refine (plus gx cx g c x (fmul 1056964608 m.toNat : Nat) w ((hB.cell (World.block_lt_of_cell? _ _ hx)).trans hx) hc).mono ?_
      rintro e w' ⟨⟨g', c', rfl, hg', hc'⟩, hb⟩
      exact ⟨_, rfl, _, rfl, ⟨g', c', rfl, Nat.le_trans hB.size hg', hc'⟩, hb⟩
    | 11, _ => exact Rin.step_alloc (d := some 12) (t := 102) (by kernel_rfl) _ _ (alloc102 w) ⟨_, rfl, ⟨_, rfl, hB.size, heap_alloc_new _ _⟩, below_alloc _ _⟩
    | i + 12, hi => exact absurd hi (by omega)
  · intro a w hR hS
    obtain ⟨g, c, h73, hB2, hc⟩ : ∃ g c, a.eval (.tmp 73) = pc g c ∧ w0.heap.size ≤ g ∧ w.cell? ⟨g, 0, none⟩ = some (.int .u32 (fadd x.toNat (fmul 1056964608 m.toNat) : Nat)) := hS 10 (by omega)
    obtain ⟨p, h12, hBp, hp⟩ : ∃ p, a.eval (.tmp 12) = .pointer (some ⟨p, 0, none⟩) ∧ w0.heap.size ≤ p ∧ w.heap[p]? = some (.cells pz.toArray 102 (0, 0)) := hS 11 (by omega)
    have hne : p ≠ g := by
      rintro rfl
      rw [cell_of_row _ _ 0 _ _ _ hp] at hc
      injection hc with hc
      cases hc
    refine Rin.step_store (d := none) (t := 102) (x := .tmp 12) (y := .tmp 73) (by kernel_rfl) _ (by rw [h12, h73]; exact store102 _ _ _ rfl (by kernel_rfl) hp) ?_
    refine hQ a _ g c p hR.size hR.defers (fun t ht h12 => hR.rest t (fun i hi e => by have e : (if i < 11 then 63 + i else 12 : Nat) = t := e; split at e <;> omega)) h12 hBp hB2 hne (setRow_heap _ _ _ _ _ _ hp) ?_ (Trv.below_row hR.below hBp _)
    rw [cell_setRow_other _ _ _ _ (by show g ≠ p; exact Ne.symm hne)]
    exact hc
end Go.Proofs.YtpgodgfkbkfpcaaGreat.Tim
