/- Pieces of one real number: made. No condition. -/
import Derived.Test.YtpgodgfkbkfpcaaGreatTim
set_option linter.unusedVariables false
set_option linter.unusedSimpArgs false
namespace Go.Proofs.YtpgodgfkbkfpcaaGreat.Tim
open Go.Shelf Go.RowKit Go.Proofs.YtpgodgfkbkfpcaaGreat.Trb Go.Proofs.YtpgodgfkbkfpcaaGreat.Bui
open Lathe (fadd fmul)
/-- The region with a number, wherever in a body. -/
def regionIn (id : Nat) : Code → Option (Array Oper)
  | .region k ops _ => if k = id then some ops else none
  | .seq s t => (regionIn id s).orElse fun _ => regionIn id t
  | .cond _ s t => (regionIn id s).orElse fun _ => regionIn id t
  | .block _ s => regionIn id s
  | .loop s => regionIn id s
  | _ => none
def opsIn (f : Func) (id : Nat) : Array Oper := ((f.body).bind (regionIn id)).getD #[]
noncomputable def ops180 : Array Oper := opsIn Tryz.f180 5
noncomputable def tF : TypeInfo := (Tryz.prog.info? 81).get (by kernel_rfl)
def T180 (F : Nat) (cap : Array Value) (x r : Int) (g5 : Nat) (t : Nat) (v : Value) (w : World) : Prop :=
  if t = 25 then v = .pointer (some ⟨g5, 3, none⟩) else if t = 26 then v = .slice none 0 0 else if t = 27 then v = .func (.func F) #[] cap else if t = 28 then v = .int .i64 0 else if t = 29 then v = .int .u32 x
  else if t = 30 then v = .agg #[.int .u32 x, .int .u32 0] else if t = 31 then ∃ s, v = .agg #[.int .u32 r, .int .u32 s] else if t = 32 then v = .int .u32 r
  else if t = 33 then ∃ g, v = .slice (some ⟨g, 0, none⟩) 1 1 ∧ w.heap[g]? = some (.cells #[.int .u32 r] 81 (0, 0))
  else if t = 34 then ∃ g c, v = .slice (some ⟨g, 0, none⟩) 1 c ∧ g5 < g ∧ w.cell? ⟨g, 0, none⟩ = some (.int .u32 r) else v = .pointer (some ⟨g5, 3, none⟩)
theorem T180.on {F : Nat} {cap : Array Value} {x r : Int} {g5 t : Nat} {v : Value} {w w' : World} (h : T180 F cap x r g5 t v w) (hB : Below w.heap.size w w') : T180 F cap x r g5 t v w' := by
  by_cases e : t = 33
  · subst e
    obtain ⟨g, h1, h2⟩ : ∃ g, v = .slice (some ⟨g, 0, none⟩) 1 1 ∧ w.heap[g]? = some (.cells #[.int .u32 r] 81 (0, 0)) := h
    exact ⟨g, h1, heap_on h2 hB⟩
  · by_cases e2 : t = 34
    · subst e2
      obtain ⟨g, c, h1, h2, h3⟩ : ∃ g c, v = .slice (some ⟨g, 0, none⟩) 1 c ∧ g5 < g ∧ w.cell? ⟨g, 0, none⟩ = some (.int .u32 r) := h
      exact ⟨g, c, h1, h2, (hB.cell (World.block_lt_of_cell? _ _ h3)).trans h3⟩
    · have e3 : T180 F cap x r g5 t v w = T180 F cap x r g5 t v w' := by unfold T180; simp only [e, e2, if_false]
      rw [← e3]; exact h
theorem f102_3 (g : Nat) (w : World) : (Instr.fieldAt 102 (.pointer (some ⟨g, 0, none⟩)) 3).run Tryz.prog w = .ok (.pointer (some ⟨g, 3, none⟩)) w := by kernel_rfl
theorem load22 (w : World) (g k : Nat) (v : Value) (hc : w.cell? ⟨g, k, none⟩ = some v) : (Instr.loadAt 22 (.pointer (some ⟨g, k, none⟩))).run Tryz.prog w = .ok v w := by
  have hu := Tryz.underlying22
  simp [Instr.loadAt, Instr.sureAddr, loadVar, isAgg, run_underlying hu, hc]
theorem store22 (w : World) (g k : Nat) (p : Option Addr) (l c : Nat) (x : Value) (hc : w.cell? ⟨g, k, none⟩ = some x) (hf : w.frozen? ⟨g, k, none⟩ = false) : (Instr.storeAt 22 (.pointer (some ⟨g, k, none⟩)) (.slice p l c)).run Tryz.prog w = .ok () (w.setCell ⟨g, k, none⟩ (.slice p l c)) := by
  have hi : Tryz.prog.info? 22 = some Tryz.t22 := by kernel_rfl
  have hs : Tryz.t22.size = 1 := by kernel_rfl
  have ha : (⟨g, k, none⟩ : Addr).add 0 = ⟨g, k, none⟩ := by unfold Addr.add; split <;> simp_all
  simp [Instr.storeAt, Instr.sureAddr, storeVar, sizeOf, typeInfo, hi, hs, Value.cells, storeCells, ha, hc, hf, run_store Tryz.prog w ⟨g, k, none⟩ (.slice p l c) .plain rfl]
set_option maxHeartbeats 1000000 in
set_option maxRecDepth 100000 in
theorem reg5 {Q : Exit → Act → World → Prop} {a0 : Act} {w0 : World} {g5 F : Nat} {cap : Array Value} {x r : Int}
    (hN : a0.tmps.size = 58) (h5 : a0.eval (.tmp 5) = .pointer (some ⟨g5, 0, none⟩)) (h1 : a0.eval (.tmp 1) = .func (.func F) #[] cap) (h6 : a0.eval (.tmp 6) = .int .i64 0) (h7 : a0.eval (.tmp 7) = .int .u32 x)
    (hg5 : w0.heap[g5]? = some (.cells #[.int .i64 0, .int .i64 0, .bool false, .slice none 0 0, .slice none 0 0] 102 (0, 0)))
    (he : ∀ vs w, (callFunc F vs).run Tryz.prog w = .ok (.enter F vs) w)
    (hF : ∀ w, Below w0.heap.size w0 w → Calls Tryz.prog F (#[.int .i64 0, .agg #[.int .u32 x, .int .u32 0]] ++ cap) w fun e w' => (∃ s, e = .returned (.agg #[.int .u32 r, .int .u32 s])) ∧ Below w.heap.size w w')
    (hQ : ∀ a w g c, a.tmps.size = 58 → a.defers = a0.defers → (∀ t : Nat, t < 25 → a.eval (.tmp t) = a0.eval (.tmp t)) → g5 < g → w.cell? ⟨g, 0, none⟩ = some (.int .u32 r) → Below w0.heap.size w0 w → Q .normal a (w.setCell ⟨g5, 3, none⟩ (.slice (some ⟨g, 0, none⟩) 1 c))) :
    (Code.region 5 ops180 true).wp Tryz.prog Q a0 w0 := by
  have hm : Tryz.prog.follows .mixedOrders = true := by kernel_rfl
  refine Rin.wp_region_slots 11 58 (fun i => 25 + i) (T180 F cap x r g5) hm (by kernel_rfl) (by kernel_rfl) (by kernel_rfl) hN (fun i hi => by show 25 + i < 58; omega) (fun i j hi hj h => by have h : 25 + i = 25 + j := h; omega) (fun _ _ _ _ => T180.on) ?_ ?_
  · intro i o a w hi ho hR hS
    have hS' : ∀ k, k < 11 → ((ops180[i]?).map fun o => o.after.any fun e => e.on == k && Region.binds .any e) = some true → T180 F cap x r g5 (25 + k) (a.eval (.tmp (25 + k))) w := fun k hk he => hS k hk (by rw [ho] at he; simpa using he)
    clear hS ho o
    have rest : ∀ t : Nat, t < 25 → a.eval (.tmp t) = a0.eval (.tmp t) := fun t ht => hR.rest t (fun i hi => by show 25 + i ≠ t; omega)
    match i, hi with
    | 0, _ => exact Rin.step_run (d := some 25) (op := .fieldAddr 102 (.tmp 5) 3) (by kernel_rfl) _ _ (field_run ((rest 5 (by omega)).trans h5) (f102_3 _ _)) ⟨_, rfl, rfl, Below.refl _ _⟩
    | 1, _ =>
      have h25 : a.eval (.tmp 25) = .pointer (some ⟨g5, 3, none⟩) := hS' 0 (by omega) (by kernel_rfl)
      exact Rin.step_load (d := some 26) (t := 22) (x := .tmp 25) (by kernel_rfl) (.slice none 0 0) (by rw [h25]; exact load22 _ _ _ _ (cell_of_row _ _ 3 _ _ _ (heap_on hg5 hR.below))) ⟨_, rfl, rfl, Below.refl _ _⟩
    | 2, _ => exact Rin.step_move (d := some 27) (x := .tmp 1) (by kernel_rfl) ⟨_, rfl, (rest 1 (by omega)).trans h1, Below.refl _ _⟩
    | 3, _ => exact Rin.step_move (d := some 28) (x := .tmp 6) (by kernel_rfl) ⟨_, rfl, (rest 6 (by omega)).trans h6, Below.refl _ _⟩
    | 4, _ => exact Rin.step_move (d := some 29) (x := .tmp 7) (by kernel_rfl) ⟨_, rfl, (rest 7 (by omega)).trans h7, Below.refl _ _⟩
    | 5, _ =>
      have h29 : a.eval (.tmp 29) = .int .u32 x := hS' 4 (by omega) (by kernel_rfl)
      exact Rin.step_build (t := 105) (l := [(0, .tmp 29)]) (d := some 30) (by kernel_rfl) #[.int .u32 x, .int .u32 0] (by show Tryz.prog.built 105 [(0, a.eval (.tmp 29))] = _; rw [h29]; kernel_rfl) ⟨_, rfl, rfl, Below.refl _ _⟩
    | 6, _ =>
      have h27 : a.eval (.tmp 27) = .func (.func F) #[] cap := hS' 2 (by omega) (by kernel_rfl)
      have h28 : a.eval (.tmp 28) = .int .i64 0 := hS' 3 (by omega) (by kernel_rfl)
      have h30 : a.eval (.tmp 30) = .agg #[.int .u32 x, .int .u32 0] := hS' 5 (by omega) (by kernel_rfl)
      refine Rin.step_callv (x := .tmp 27) (args := [.tmp 28, .tmp 30]) (ts := #[3, 105]) (d := some 31) (by kernel_rfl) h27 he ?_
      show Calls _ F (#[a.eval (.tmp 28), a.eval (.tmp 30)] ++ cap) _ _
      rw [h28, h30]
      refine (hF w hR.below).mono ?_
      rintro e w' ⟨⟨s, rfl⟩, hb⟩
      exact ⟨_, rfl, _, rfl, ⟨s, rfl⟩, hb⟩
    | 7, _ =>
      obtain ⟨s, h31⟩ : ∃ s, a.eval (.tmp 31) = .agg #[.int .u32 r, .int .u32 s] := hS' 6 (by omega) (by kernel_rfl)
      refine Rin.step_run (d := some 32) (op := .field 105 (.tmp 31) 0) (by kernel_rfl) (.int .u32 r) w (fun o ho => ?_) ⟨_, rfl, rfl, Below.refl _ _⟩
      have hr : (Instr.field 105 (.agg #[.int .u32 r, .int .u32 s]) 0).run Tryz.prog w = .ok (.int .u32 r) w := by kernel_rfl
      unfold execOp
      simp [ho, h31, hr, Result.andThen]
    | 8, _ =>
      have h32 : a.eval (.tmp 32) = .int .u32 r := hS' 7 (by omega) (by kernel_rfl)
      exact Rin.step_rows (d := some 33) (l := [(0, .tmp 32)]) (by kernel_rfl) [.int .u32 r] (by show [(0, a.eval (.tmp 32))] = _; rw [h32]; rfl) rfl (s := 1) (n := 1) (by decide) (by decide) (by decide) Tryz.underlying22 (by kernel_rfl) (by kernel_rfl) (by intro v hv; simp only [List.mem_cons, List.not_mem_nil, or_false] at hv; subst hv; rfl) ⟨_, rfl, ⟨_, rfl, heap_alloc_new _ _⟩, below_alloc _ _⟩
    | 9, _ =>
      have h26 : a.eval (.tmp 26) = .slice none 0 0 := hS' 1 (by omega) (by kernel_rfl)
      obtain ⟨g2, h33, hg2⟩ : ∃ g, a.eval (.tmp 33) = .slice (some ⟨g, 0, none⟩) 1 1 ∧ w.heap[g]? = some (.cells #[.int .u32 r] 81 (0, 0)) := hS' 8 (by omega) (by kernel_rfl)
      refine Rin.step_append_nil (d := some 34) (by kernel_rfl) 81 tF (.int .u32 0) 1 4 Tryz.underlying22 (by kernel_rfl) (by kernel_rfl) (by kernel_rfl) (by kernel_rfl) rfl (by decide) h26 g2 1 1 _ (0, 0) h33 hg2 rfl (by kernel_rfl) (by decide) (by unfold maxLen; omega) (by omega) ?_
      intro k c cur w' hk h3 ht hcs hc hb
      refine ⟨_, rfl, ⟨k, c, rfl, ?_, ?_⟩, hb⟩
      · have := (Array.getElem?_eq_some_iff.1 (heap_on hg5 hR.below)).1; omega
      · rw [cell_of_row _ _ 0 _ _ _ h3, ← Array.getElem?_toList]
        have := congrArg (fun l => l[0]?) ht
        simpa using this
    | 10, _ => exact Rin.step_run (d := some 35) (op := .fieldAddr 102 (.tmp 5) 3) (by kernel_rfl) _ _ (field_run ((rest 5 (by omega)).trans h5) (f102_3 _ _)) ⟨_, rfl, rfl, Below.refl _ _⟩
    | i + 11, hi => exact absurd hi (by omega)
  · intro a w hR hS
    obtain ⟨g, c, h34, hlt, hc⟩ : ∃ g c, a.eval (.tmp 34) = .slice (some ⟨g, 0, none⟩) 1 c ∧ g5 < g ∧ w.cell? ⟨g, 0, none⟩ = some (.int .u32 r) := hS 9 (by omega)
    have h35 : a.eval (.tmp 35) = .pointer (some ⟨g5, 3, none⟩) := hS 10 (by omega)
    have hg := heap_on hg5 hR.below
    refine Rin.step_store (d := none) (t := 22) (x := .tmp 35) (y := .tmp 34) (by kernel_rfl) _ (by rw [h35, h34]; exact store22 _ _ _ _ _ _ _ (cell_of_row _ _ 3 _ _ _ hg) (by simp [World.frozen?, hg])) ?_
    exact hQ a w g c hR.size hR.defers (fun t ht => hR.rest t (fun i hi => by show 25 + i ≠ t; omega)) hlt hc hR.below
end Go.Proofs.YtpgodgfkbkfpcaaGreat.Tim
