/- New: the machine's root is built and stored: a region that draws its order. No condition. -/
import Derived.Test.YtpgodgfkbkfpcaaGreatBui
set_option linter.unusedVariables false
set_option linter.unusedSimpArgs false
namespace Go.Proofs.YtpgodgfkbkfpcaaGreat.Rin
open Go Go.RowKit
section
variable {P : Program} {ops : Array Oper} {Q : Exit → Act → World → Prop} {K : Act → World → Prop} {a : Act} {w : World}
theorem step_run {i : Nat} {op : Op} {d : Option Tmp} (h : (ops[i]?).map (fun o => (o.op, o.dst, o.guard)) = some (op, d, none)) (v : Value) (w' : World) (hx : ∀ o : Oper, o.op = op → (execOp a.eval o).run P w = .ok (.value v) w') (hk : K (a.put d v) w') : wpOp P ops Q i K a w := by
  refine wpOp_at h fun o ho hd => ?_
  unfold Oper.wp
  rw [hx o ho, Oper.upon_value, hd]
  exact hk
end
end Go.Proofs.YtpgodgfkbkfpcaaGreat.Rin
namespace Go.Proofs.YtpgodgfkbkfpcaaGreat.Bui
open Go.Shelf Go.RowKit Go.Proofs.YtpgodgfkbkfpcaaGreat.Trb Go.Proofs.YtpgodgfkbkfpcaaGreat.Fom
theorem nil_run {a : Act} {w : World} {x : Operand} {b : Addr} (h : a.eval x = .pointer (some b)) : ∀ o : Oper, o.op = .nilCheck x → (execOp a.eval o).run Tryz.prog w = .ok (.value (.pointer (some b))) w := by
  intro o ho
  unfold execOp
  simp [ho, h]
theorem field_run {a : Act} {w : World} {x : Operand} {s f : Nat} {b c : Addr} (h : a.eval x = .pointer (some b)) (hr : (Instr.fieldAt s (.pointer (some b)) f).run Tryz.prog w = .ok (.pointer (some c)) w) : ∀ o : Oper, o.op = .fieldAddr s x f → (execOp a.eval o).run Tryz.prog w = .ok (.value (.pointer (some c))) w := by
  intro o ho
  unfold execOp
  simp [ho, h, hr, Result.andThen]
theorem f94_1 (g : Nat) (w : World) : (Instr.fieldAt 94 (.pointer (some ⟨g, 0, none⟩)) 1).run Tryz.prog w = .ok (.pointer (some ⟨g, 1, none⟩)) w := by kernel_rfl
theorem f94_2 (g : Nat) (w : World) : (Instr.fieldAt 94 (.pointer (some ⟨g, 0, none⟩)) 2).run Tryz.prog w = .ok (.pointer (some ⟨g, 2, none⟩)) w := by kernel_rfl
theorem load31 (w : World) (g k : Nat) (v : Value) (hc : w.cell? ⟨g, k, none⟩ = some v) : (Instr.loadAt 31 (.pointer (some ⟨g, k, none⟩))).run Tryz.prog w = .ok v w := by
  have hu := Tryz.underlying31
  simp [Instr.loadAt, Instr.sureAddr, loadVar, isAgg, run_underlying hu, hc]
theorem store92 (w : World) (g k t : Nat) (p x : Value) (hc : w.cell? ⟨g, k, none⟩ = some x) (hf : w.frozen? ⟨g, k, none⟩ = false) : (Instr.storeAt 92 (.pointer (some ⟨g, k, none⟩)) (.iface t p)).run Tryz.prog w = .ok () (w.setCell ⟨g, k, none⟩ (.iface t p)) := by
  have hi : Tryz.prog.info? 92 = some Tryz.t92 := by kernel_rfl
  have hs : Tryz.t92.size = 1 := by kernel_rfl
  have ha : (⟨g, k, none⟩ : Addr).add 0 = ⟨g, k, none⟩ := by unfold Addr.add; split <;> simp_all
  simp [Instr.storeAt, Instr.sureAddr, storeVar, sizeOf, typeInfo, hi, hs, Value.cells, storeCells, ha, hc, hf, run_store Tryz.prog w ⟨g, k, none⟩ (.iface t p) .plain rfl]
noncomputable def ops21 : Array Oper := Rin.opsOf Tryz.f21 11
def T21 (lv av tv : Value) (gm : Nat) (Φ : Nat → World → Prop) (t : Nat) (v : Value) (w : World) : Prop :=
  if t = 34 then v = .pointer (some ⟨gm, 1, none⟩) else if t = 35 then v = lv else if t = 36 then v = av else if t = 37 then v = tv else if t = 38 then ∃ k, v = .iface 165 (.pointer (some ⟨k, 0, none⟩)) ∧ Φ k w else if t = 40 then v = .pointer (some ⟨gm, 2, none⟩) else v = .pointer (some ⟨gm, 0, none⟩)
theorem ent51 : ∀ vs w, (callFunc 51 vs).run Tryz.prog w = .ok (.enter 51 vs) w := enters_of Tryz.func51 (by kernel_rfl) rfl
set_option maxHeartbeats 1000000 in
set_option maxRecDepth 100000 in
theorem reg11 {Q : Exit → Act → World → Prop} {a0 : Act} {w0 : World} {gm gt op : Nat} {lv av : Value} {nums ints : Value} (Φ : Nat → World → Prop) (hΦ : ∀ k w w', Φ k w → Below w.heap.size w w' → Φ k w')
    (hN : a0.tmps.size = 42) (h9 : a0.eval (.tmp 9) = .pointer (some ⟨gm, 0, none⟩)) (h2 : a0.eval (.tmp 2) = .pointer (some ⟨gt, 0, none⟩)) (h7 : a0.eval (.tmp 7) = av)
    (hm0 : w0.heap[gm]? = some (.cells #[.int .i64 0, lv, .nilIface] 94 (0, 0))) (ht0 : w0.heap[gt]? = some (.cells #[.int .i64 op, nums, ints, .slice none 0 0, .int .i64 0, .slice none 0 0, .slice none 0 0, .slice none 0 0, .slice none 0 0] 30 (0, 0)))
    (hb : ∀ w, Below w0.heap.size w0 w → Calls Tryz.prog 51 #[lv, av, .bool false, Mea.tx op nums ints] w fun e w' => (∃ k, e = .returned (.iface 165 (.pointer (some ⟨k, 0, none⟩))) ∧ Φ k w') ∧ Below w.heap.size w w')
    (hQ : ∀ a w k, a.tmps.size = 42 → a.defers = a0.defers → (∀ t : Nat, t < 31 → a.eval (.tmp t) = a0.eval (.tmp t)) → Φ k w → Below w0.heap.size w0 w → Q .normal a (w.setCell ⟨gm, 2, none⟩ (.iface 165 (.pointer (some ⟨k, 0, none⟩))))) :
    (Code.region 11 ops21 true).wp Tryz.prog Q a0 w0 := by
  have hm : Tryz.prog.follows .mixedOrders = true := by kernel_rfl
  refine Rin.wp_region_slots 10 42 (fun i => 31 + i) (T21 lv av (Mea.tx op nums ints) gm Φ) hm (by kernel_rfl) (by kernel_rfl) (by kernel_rfl) hN (fun i hi => by show 31 + i < 42; omega) (fun i j hi hj h => by have h : 31 + i = 31 + j := h; omega) ?_ ?_ ?_
  · intro t v w w' h hB
    by_cases e : t = 38
    · subst e
      obtain ⟨k, h1, h2⟩ : ∃ k, v = .iface 165 (.pointer (some ⟨k, 0, none⟩)) ∧ Φ k w := h
      exact ⟨k, h1, hΦ _ _ _ h2 hB⟩
    · have e2 : T21 lv av (Mea.tx op nums ints) gm Φ t v w = T21 lv av (Mea.tx op nums ints) gm Φ t v w' := by unfold T21; simp only [e, if_false]
      rw [← e2]; exact h
  · intro i o a w hi ho hR hS
    have hS' : ∀ k, k < 10 → ((ops21[i]?).map fun o => o.after.any fun e => e.on == k && Region.binds .any e) = some true → T21 lv av (Mea.tx op nums ints) gm Φ (31 + k) (a.eval (.tmp (31 + k))) w := fun k hk he => hS k hk (by rw [ho] at he; simpa using he)
    clear hS ho o
    have e9 : a.eval (.tmp 9) = .pointer (some ⟨gm, 0, none⟩) := (hR.rest 9 (fun i hi => by show 31 + i ≠ 9; omega)).trans h9
    match i, hi with
    | 0, _ => exact Rin.step_move (d := some 31) (x := .tmp 9) (by kernel_rfl) ⟨_, rfl, e9, Below.refl _ _⟩
    | 1, _ => exact Rin.step_move (d := some 32) (x := .tmp 9) (by kernel_rfl) ⟨_, rfl, e9, Below.refl _ _⟩
    | 2, _ =>
      have h32 : a.eval (.tmp 32) = .pointer (some ⟨gm, 0, none⟩) := hS' 1 (by omega) (by kernel_rfl)
      exact Rin.step_run (d := some 33) (op := .nilCheck (.tmp 32)) (by kernel_rfl) _ _ (nil_run h32) ⟨_, rfl, rfl, Below.refl _ _⟩
    | 3, _ =>
      have h33 : a.eval (.tmp 33) = .pointer (some ⟨gm, 0, none⟩) := hS' 2 (by omega) (by kernel_rfl)
      exact Rin.step_run (d := some 34) (op := .fieldAddr 94 (.tmp 33) 1) (by kernel_rfl) _ _ (field_run h33 (f94_1 _ _)) ⟨_, rfl, rfl, Below.refl _ _⟩
    | 4, _ =>
      have h34 : a.eval (.tmp 34) = .pointer (some ⟨gm, 1, none⟩) := hS' 3 (by omega) (by kernel_rfl)
      exact Rin.step_load (d := some 35) (t := 31) (x := .tmp 34) (by kernel_rfl) lv (by rw [h34]; exact load31 _ _ _ _ (cell_of_row _ _ 1 _ _ _ (heap_on hm0 hR.below))) ⟨_, rfl, rfl, Below.refl _ _⟩
    | 5, _ => exact Rin.step_move (d := some 36) (x := .tmp 7) (by kernel_rfl) ⟨_, rfl, (hR.rest 7 (fun i hi => by show 31 + i ≠ 7; omega)).trans h7, Below.refl _ _⟩
    | 6, _ => exact Rin.step_loadRow (d := some 37) (by kernel_rfl) gt ((hR.rest 2 (fun i hi => by show 31 + i ≠ 2; omega)).trans h2) 30 _ (0, 0) _ (heap_on ht0 hR.below) Tryz.underlying30 rfl (by kernel_rfl) ⟨_, rfl, rfl, Below.refl _ _⟩
    | 7, _ =>
      have h35 : a.eval (.tmp 35) = lv := hS' 4 (by omega) (by kernel_rfl)
      have h36 : a.eval (.tmp 36) = av := hS' 5 (by omega) (by kernel_rfl)
      have h37 : a.eval (.tmp 37) = Mea.tx op nums ints := hS' 6 (by omega) (by kernel_rfl)
      refine Rin.step_call (args := [.tmp 35, .tmp 36, .const (.bool false), .tmp 37]) (ts := #[31, 23, 4, 30]) (d := some 38) (by kernel_rfl) ent51 ?_
      show Calls _ 51 #[a.eval (.tmp 35), a.eval (.tmp 36), .bool false, a.eval (.tmp 37)] _ _
      rw [h35, h36, h37]
      refine (hb w hR.below).mono ?_
      rintro e w' ⟨⟨k, rfl, hk⟩, hB⟩
      exact ⟨_, rfl, _, rfl, ⟨k, rfl, hk⟩, hB⟩
    | 8, _ =>
      have h31 : a.eval (.tmp 31) = .pointer (some ⟨gm, 0, none⟩) := hS' 0 (by omega) (by kernel_rfl)
      exact Rin.step_run (d := some 39) (op := .nilCheck (.tmp 31)) (by kernel_rfl) _ _ (nil_run h31) ⟨_, rfl, rfl, Below.refl _ _⟩
    | 9, _ =>
      have h39 : a.eval (.tmp 39) = .pointer (some ⟨gm, 0, none⟩) := hS' 8 (by omega) (by kernel_rfl)
      exact Rin.step_run (d := some 40) (op := .fieldAddr 94 (.tmp 39) 2) (by kernel_rfl) _ _ (field_run h39 (f94_2 _ _)) ⟨_, rfl, rfl, Below.refl _ _⟩
    | i + 10, hi => exact absurd hi (by omega)
  · intro a w hR hS
    have h40 : a.eval (.tmp 40) = .pointer (some ⟨gm, 2, none⟩) := hS 9 (by omega)
    obtain ⟨k, h38, hk⟩ : ∃ k, a.eval (.tmp 38) = .iface 165 (.pointer (some ⟨k, 0, none⟩)) ∧ Φ k w := hS 7 (by omega)
    have hg := heap_on hm0 hR.below
    refine Rin.step_store (d := none) (t := 92) (x := .tmp 40) (y := .tmp 38) (by kernel_rfl) _ (by rw [h40, h38]; exact store92 _ _ _ _ _ _ (cell_of_row _ _ 2 _ _ _ hg) (by simp [World.frozen?, hg])) ?_
    exact hQ a w k hR.size hR.defers (fun t ht => hR.rest t (fun i hi => by show 31 + i ≠ t; omega)) hk hR.below
end Go.Proofs.YtpgodgfkbkfpcaaGreat.Bui
