/- A step's parts at one parameter: Canon, one, pieces, Fits. No condition. -/
import Derived.Test.YtpgodgfkbkfpcaaGreatRim
import Derived.Deep.CutBlock
import Derived.Deep.DeepCutAuto
set_option linter.unusedVariables false
set_option linter.unusedSimpArgs false
namespace Go.Proofs.YtpgodgfkbkfpcaaGreat.Rin
open Go Go.RowKit
section
variable {P : Program} {ops : Array Oper} {Q : Exit → Act → World → Prop} {K : Act → World → Prop} {a : Act} {w : World}
theorem step_typed {i : Nat} {op : Op} {d : Option Tmp} {ty : TypeId} (h : (ops[i]?).map (fun o => (o.op, o.dst, o.guard, o.type)) = some (op, d, none, ty)) (v : Value) (w' : World) (hx : ∀ o : Oper, o.op = op → o.type = ty → (execOp a.eval o).run P w = .ok (.value v) w') (hk : K (a.put d v) w') : wpOp P ops Q i K a w := by
  unfold wpOp
  cases ho : ops[i]? with
  | none => rw [ho] at h; cases h
  | some o =>
    rw [ho] at h
    simp only [Option.map_some, Option.some.injEq, Prod.mk.injEq] at h
    obtain ⟨h1, h2, h3, h4⟩ := h
    have hw : Region.wanted o (yielded ops a.tmps) = true := by simp [Region.wanted, h3]
    simp only [hw, if_true]
    refine Or.inl ?_
    unfold Oper.wp
    rw [hx o h1 h4, Oper.upon_value, h2]
    exact hk
theorem step_len {i : Nat} {x : Operand} {t : TypeId} {d : Option Tmp} (h : (ops[i]?).map (fun o => (o.op, o.dst, o.guard, o.type)) = some (.call { callee := .builtin .len, args := #[x], argTypes := #[t] }, d, none, 3)) (ht : P.underlying t = some (.slice (P.elem t)))
    (b : Option Addr) (n c : Nat) (hx : a.eval x = .slice b n c) (hk : K (a.put d (.int .i64 n)) w) : wpOp P ops Q i K a w := by
  refine step_typed h (.int .i64 n) w (fun o ho hty => ?_) hk
  unfold execOp
  simp [ho, hty, resolve, invoke, builtin, goInt, hx, run_len_slice (P := P) (w := w) t 3 b n c ht, Result.andThen]
end
end Go.Proofs.YtpgodgfkbkfpcaaGreat.Rin
namespace Go.Proofs.YtpgodgfkbkfpcaaGreat.Tim
open Go.Shelf Go.RowKit Go.Proofs.YtpgodgfkbkfpcaaGreat.Trb Go.Proofs.YtpgodgfkbkfpcaaGreat.Bui Go.Proofs.YtpgodgfkbkfpcaaGreat.Fom
set_option maxHeartbeats 400000 in
set_option maxRecDepth 100000 in
theorem canon1 (x : Int) (hcn : ∀ W, Calls Tryz.prog 68 #[.int .u32 x] W fun e w' => e = .returned (.int .u32 x) ∧ w' = W) (g c : Nat) (W : World) (h : W.cell? ⟨g, 0, none⟩ = some (.int .u32 x)) : Calls Tryz.prog 45 #[.slice (some ⟨g, 0, none⟩) 1 c] W fun e w' =>
    (∃ q cap, e = .returned (.slice (some ⟨q, 0, none⟩) 1 cap) ∧ W.heap.size ≤ q ∧ w'.cell? ⟨q, 0, none⟩ = some (.int .u32 x)) ∧ Below W.heap.size W w' := by
  go_enter Tryz.func45, Tryz.ntmps45
  go_wp2
  refine wp_loop_rounds 2 ?_
  rw [rounds_succ]
  go_wp2_with (first | (go_at_call 68; refine (hcn _).mono ?_; rintro e w1 ⟨rfl, rfl⟩) | (at_builtin; refine Mec.app_nil rfl (.tmp 12) (.tmp 15) 22 rfl 81 tF (.int .u32 0) 1 4 Tryz.underlying22 (by kernel_rfl) (by kernel_rfl) (by kernel_rfl) (by kernel_rfl) rfl (by decide) (by rfl) _ 1 1 _ (0, 0) (by rfl) (heap_alloc_new _ _) (by rfl) (by kernel_rfl) (by decide) (by unfold maxLen; omega) (by omega) ?_; intro q cap cur w2 hq h3 ht hcs hc hb))
  have hc1 : w2.cell? ⟨q, 0, none⟩ = some (.int .u32 x) := (cell_of_row _ _ 0 _ _ _ h3).trans (take_at (cs := #[.int .u32 x]) (n := 1) ht (by omega))
  have hB : Below w1.heap.size w1 w2 := Tab.then_ (below_alloc _ _) (by simp) hb
  have hq' : w1.heap.size ≤ q := by simp at hq; omega
  clear hb h3 ht hcs hc hq
  rw [rounds_succ]
  go_wp2
  go_ret
  exact ⟨⟨q, cap, rfl, hq', hc1⟩, hB⟩
set_option maxHeartbeats 400000 in
set_option maxRecDepth 100000 in
theorem one1 (x : Int) (W : World) : Calls Tryz.prog 36 #[.int .u32 x] W fun e w' =>
    (∃ v g, e = .returned (.slice (some ⟨v, 0, none⟩) 1 1) ∧ W.heap.size ≤ v ∧ W.heap.size ≤ g ∧ w'.cell? ⟨v, 0, none⟩ = some (.slice (some ⟨g, 0, none⟩) 1 1) ∧ w'.cell? ⟨g, 0, none⟩ = some (.int .u32 x)) ∧ Below W.heap.size W w' := by
  go_enter Tryz.func36, Tryz.ntmps36
  go_wp2
  go_ret
  refine ⟨⟨W.heap.size + 1, W.heap.size, rfl, by omega, by omega, by go_simp, by go_simp⟩, Tab.then_ (below_alloc _ _) (by simp) (below_alloc _ _)⟩
set_option maxHeartbeats 1000000 in
set_option maxRecDepth 100000 in
theorem pieces1 (x : Int) (hcn : ∀ W, Calls Tryz.prog 68 #[.int .u32 x] W fun e w' => e = .returned (.int .u32 x) ∧ w' = W) (m v vc ql qc g gc k : Nat) (n : Int) (W : World) (hM : Mac W m n (.slice (some ⟨ql, 0, none⟩) 1 qc) k) (hO : Mec.One W ql)
    (hv : W.cell? ⟨v, 0, none⟩ = some (.slice (some ⟨g, 0, none⟩) 1 gc)) (hg : W.cell? ⟨g, 0, none⟩ = some (.int .u32 x)) : Calls Tryz.prog 43 #[.pointer (some ⟨m, 0, none⟩), .slice (some ⟨v, 0, none⟩) 1 vc] W fun e w' =>
    (∃ q cap g' c', e = .returned (.slice (some ⟨q, 0, none⟩) 1 cap) ∧ W.heap.size ≤ q ∧ Pl w' q g' c' ∧ W.heap.size ≤ g' ∧ w'.cell? ⟨g', 0, none⟩ = some (.int .u32 x)) ∧ Below W.heap.size W w' := by
  have hca := fun w (hB : Below W.heap.size W w) => canon1 x hcn g gc w ((hB.cell (World.block_lt_of_cell? _ _ hg)).trans hg)
  have zm : m < W.heap.size := World.block_lt_of_cell? _ _ hM.c1
  have zq : ql < W.heap.size := World.block_lt_of_cell? _ _ hO.c1
  have zv : v < W.heap.size := World.block_lt_of_cell? _ _ hv
  go_enter Tryz.func43, Tryz.ntmps43
  go_wp2
  refine wp_loop_rounds 2 ?_
  rw [rounds_succ]
  go_upto_region 16 with (go_at_call 45; refine (hca _ (below_alloc _ _)).mono ?_; rintro e w1 ⟨⟨q1, p1, rfl, hq1, hc1⟩, hb⟩; have hB1 : Below W.heap.size W w1 := Tab.then_ (below_alloc _ _) (by simp) hb; have m1 := (hB1.cell (World.block_lt_of_cell? _ _ hM.c1)).trans hM.c1; have o1 := (hB1.cell (World.block_lt_of_cell? _ _ hO.c1)).trans hO.c1; obtain ⟨⟨b0, b1, b2, b3, b4⟩, bf⟩ := five (heap_on (heap_alloc_new W (.cells #[.int .i64 0, .int .i64 0, .bool false, .slice none 0 0, .slice none 0 0] 102)) hb); have bf3 := bf 3 (by omega))
  go_wp2_with (at_builtin; refine Mec.app_nil rfl (.tmp 55) (.tmp 57) 97 rfl 102 tP (.agg pz.toArray) 5 72 Tryz.underlying97 (by kernel_rfl) (by kernel_rfl) (by kernel_rfl) (by kernel_rfl) rfl (by decide) (by rfl) w1.heap.size 1 1 _ (0, 0) (by rfl) (Tab.new_at _ _ (by simp [World.setCell])) (by rfl) (by kernel_rfl) (by decide) (by unfold maxLen; omega) (by omega) ?_; intro q cap cur w2 hq h3 ht hcs hc hb2)
  have hq1' : W.heap.size + 1 ≤ q1 := by simp at hq1; exact hq1
  have sw : (w1.setCell ⟨W.heap.size, 3, none⟩ (.slice (some ⟨q1, 0, none⟩) 1 p1)).heap.size = w1.heap.size := by simp [World.setCell]
  have hx1 : q1 < w1.heap.size := World.block_lt_of_cell? _ _ hc1
  have hpl := pl_of h3 (by rw [show 1 * 5 = 5 from rfl] at ht; exact ht)
  have hB1' := Paz.bs (j := 3) (v := .slice (some ⟨q1, 0, none⟩) 1 p1) hB1 (Nat.le_refl _)
  have hs1 := hB1.size
  have hcell : w2.cell? ⟨q1, 0, none⟩ = some (.int .u32 x) := (hb2.cell (p := ⟨q1, 0, none⟩) (by simp [World.setCell]; omega)).trans (((below_alloc _ _).cell (p := ⟨q1, 0, none⟩) (by rw [sw]; exact hx1)).trans ((cell_far (by omega)).trans hc1))
  have hB : Below W.heap.size W w2 := Tab.then_ (Tab.then_ hB1' hB1'.size (below_alloc _ _)) (by simp [World.setCell]; omega) hb2
  have hq' : W.heap.size ≤ q := by simp [World.setCell] at hq; omega
  clear hb2 ht h3 hcs hc hq sw hca hb hB1' m1 o1 b0 b1 b2 b3 b4 bf bf3
  rw [rounds_succ]
  go_wp2
  go_ret
  exact ⟨⟨q, cap, q1, p1, rfl, hq', hpl, by omega, hcell⟩, hB⟩
noncomputable def ops41 : Array Oper := opsIn Tryz.f41 6
def T41 (v vc g gc : Nat) (t : Nat) (u : Value) : Prop :=
  if t = 19 then u = .slice (some ⟨v, 0, none⟩) 1 vc else if t = 20 then u = .int .i64 0 else if t = 21 then u = .pointer (some ⟨v, 0, none⟩) else if t = 22 then u = .slice (some ⟨g, 0, none⟩) 1 gc else if t = 23 then u = .int .i64 1 else if t = 24 then u = Mec.pw else if t = 25 then u = .int .i64 1 else u = .bool false
theorem ix48 (g c : Nat) (w : World) : (Instr.indexAt 48 (.slice (some ⟨g, 0, none⟩) 1 c) (.int .i64 0)).run Tryz.prog w = .ok (.pointer (some ⟨g, 0, none⟩)) w := by kernel_rfl
theorem load22c (w : World) (g k : Nat) (v : Value) (hc : w.cell? ⟨g, k, none⟩ = some v) : (Instr.loadAt 22 (.pointer (some ⟨g, k, none⟩))).run Tryz.prog w = .ok v w := by
  have hu := Tryz.underlying22
  simp [Instr.loadAt, Instr.sureAddr, loadVar, isAgg, run_underlying hu, hc]
theorem ent64 : ∀ vs w, (callFunc 64 vs).run Tryz.prog w = .ok (.enter 64 vs) w := enters_of Tryz.func64 (by kernel_rfl) rfl
set_option maxHeartbeats 1000000 in
set_option maxRecDepth 100000 in
theorem reg6 {Q : Exit → Act → World → Prop} {a0 : Act} {w0 : World} {v vc g gc b6 : Nat}
    (hN : a0.tmps.size = 28) (h1 : a0.eval (.tmp 1) = .slice (some ⟨v, 0, none⟩) 1 vc) (h5 : a0.eval (.tmp 5) = .int .i64 0) (h6 : a0.eval (.tmp 6) = .pointer (some ⟨b6, 0, none⟩)) (hv : w0.cell? ⟨v, 0, none⟩ = some (.slice (some ⟨g, 0, none⟩) 1 gc)) (hb : w0.heap[b6]? = some (.cells #[.string ⟨#[119]⟩, .int .i64 1, .int .i64 1] 79 (0, 0)))
    (hQ : ∀ (a : Act) (w : World), a.tmps.size = 28 → a.defers = a0.defers → (∀ t : Nat, t < 19 → a.eval (.tmp t) = a0.eval (.tmp t)) → a.eval (.tmp 27) = a0.eval (.tmp 27) → a.eval (.tmp 26) = .bool false → Below w0.heap.size w0 w → Q .normal a w) :
    (Code.region 6 ops41 true).wp Tryz.prog Q a0 w0 := by
  have hm : Tryz.prog.follows .mixedOrders = true := by kernel_rfl
  refine Rin.wp_region_plain 8 28 (fun i => 19 + i) (fun t u _ => T41 v vc g gc t u) hm (by kernel_rfl) (by kernel_rfl) hN (fun i hi => by show 19 + i < 28; omega) (fun i j hi hj h => by have h : 19 + i = 19 + j := h; omega) (fun t u w w' h hB => h) ?_ ?_
  · intro i a w hi hrest hB hS
    have rest : ∀ t : Nat, t < 19 → a.eval (.tmp t) = a0.eval (.tmp t) := fun t ht => hrest t (fun i hi e => by have e : 19 + i = t := e; omega)
    match i, hi, hS with
    | 0, _, _ => exact Rin.step_move (d := some 19) (x := .tmp 1) (by kernel_rfl) ⟨_, rfl, (rest 1 (by omega)).trans h1, Below.refl _ _⟩
    | 1, _, _ => exact Rin.step_move (d := some 20) (x := .tmp 5) (by kernel_rfl) ⟨_, rfl, (rest 5 (by omega)).trans h5, Below.refl _ _⟩
    | 2, _, hS =>
      have h19 : a.eval (.tmp 19) = .slice (some ⟨v, 0, none⟩) 1 vc := hS 0 (by omega) (by kernel_rfl)
      have h20 : a.eval (.tmp 20) = .int .i64 0 := hS 1 (by omega) (by kernel_rfl)
      exact Rin.step_run (d := some 21) (op := .indexAddr 48 (.tmp 19) (.tmp 20)) (by kernel_rfl) _ _ (ix_run h19 h20 (ix48 _ _ _)) ⟨_, rfl, rfl, Below.refl _ _⟩
    | 3, _, hS =>
      have h21 : a.eval (.tmp 21) = .pointer (some ⟨v, 0, none⟩) := hS 2 (by omega) (by kernel_rfl)
      exact Rin.step_load (d := some 22) (t := 22) (x := .tmp 21) (by kernel_rfl) (.slice (some ⟨g, 0, none⟩) 1 gc) (by rw [h21]; exact load22c _ _ _ _ ((hB.cell (World.block_lt_of_cell? _ _ hv)).trans hv)) ⟨_, rfl, rfl, Below.refl _ _⟩
    | 4, _, hS =>
      have h22 : a.eval (.tmp 22) = .slice (some ⟨g, 0, none⟩) 1 gc := hS 3 (by omega) (by kernel_rfl)
      exact Rin.step_len (d := some 23) (x := .tmp 22) (t := 22) (by kernel_rfl) (by kernel_rfl) _ _ _ h22 ⟨_, rfl, rfl, Below.refl _ _⟩
    | 5, _, _ => exact Rin.step_loadRow (d := some 24) (by kernel_rfl) b6 ((rest 6 (by omega)).trans h6) 79 _ (0, 0) _ (heap_on hb hB) Tryz.underlying79 rfl (by kernel_rfl) ⟨_, rfl, rfl, Below.refl _ _⟩
    | 6, _, hS =>
      have h24 : a.eval (.tmp 24) = Mec.pw := hS 5 (by omega) (by kernel_rfl)
      refine Rin.step_call (args := [.tmp 24]) (ts := #[79]) (d := some 25) (by kernel_rfl) ent64 ?_
      show Calls _ 64 #[a.eval (.tmp 24)] _ _
      rw [h24]
      refine (Mec.numbers_w w).mono ?_
      rintro e w' ⟨rfl, hB⟩
      exact ⟨_, rfl, _, rfl, rfl, hB⟩
    | 7, _, hS =>
      have h23 : a.eval (.tmp 23) = .int .i64 1 := hS 4 (by omega) (by kernel_rfl)
      have h25 : a.eval (.tmp 25) = .int .i64 1 := hS 6 (by omega) (by kernel_rfl)
      exact Rin.step_run (d := some 26) (op := .binOp .neq 3 (.tmp 23) (.tmp 25) 3) (by kernel_rfl) (.bool false) w (by
        intro o ho
        have r1 : (eqGuard .neq 3 (.tmp 23) (.tmp 25) (.int .i64 1) (.int .i64 1)).run Tryz.prog w = .ok () w := by kernel_rfl
        have r2 : (binOp .neq 3 (.int .i64 1) (.int .i64 1)).run Tryz.prog w = .ok (.bool false) w := by kernel_rfl
        unfold execOp
        simp [ho, h23, h25, r1, r2, Result.andThen]) ⟨_, rfl, rfl, Below.refl _ _⟩
    | i + 8, hi, _ => exact absurd hi (by omega)
  · intro a w h1 h2 h3 h4 h5
    exact hQ a w h1 h2 (fun t ht => h3 t (fun i hi e => by have e : 19 + i = t := e; omega)) (h3 27 (fun i hi e => by have e : 19 + i = 27 := e; omega)) (h5 7 (by omega)) h4
set_option maxHeartbeats 1000000 in
set_option maxRecDepth 100000 in
theorem fits1 (v vc ql qc g gc : Nat) (W : World) (hO : Mec.One W ql) (hv : W.cell? ⟨v, 0, none⟩ = some (.slice (some ⟨g, 0, none⟩) 1 gc)) : Calls Tryz.prog 41 #[.slice (some ⟨ql, 0, none⟩) 1 qc, .slice (some ⟨v, 0, none⟩) 1 vc] W fun e w' => e = .returned (.bool true) ∧ Below W.heap.size W w' := by
  obtain ⟨c0, c1, c2⟩ := hO
  have z0 : ql < W.heap.size := World.block_lt_of_cell? _ _ c0
  go_enter Tryz.func41, Tryz.ntmps41
  go_wp2
  refine wp_loop_rounds 2 ?_
  rw [rounds_succ]
  go_upto_region 6 with fail
  have hbn := below_alloc W (.cells #[.string ⟨#[119]⟩, .int .i64 1, .int .i64 1] 79)
  refine Rin.wp_region_to (l' := ops41) (by kernel_rfl) ?_
  refine reg6 (v := v) (vc := vc) (g := g) (gc := gc) (b6 := W.heap.size) rfl rfl rfl rfl ((hbn.cell (World.block_lt_of_cell? _ _ hv)).trans hv) (heap_alloc_new _ _) ?_
  intro a w hN hd ht h27 h26 hB
  have hBW : Below W.heap.size W w := Tab.then_ hbn (by simp) hB
  rw [Rin.act_list 28 a hN hd, show List.range 28 = [0, 1, 2, 3, 4, 5, 6, 7, 8, 9, 10, 11, 12, 13, 14, 15, 16, 17, 18, 19, 20, 21, 22, 23, 24, 25, 26, 27] from rfl]
  simp only [List.map_cons, List.map_nil, ht 0 (by omega), ht 1 (by omega), ht 2 (by omega), ht 3 (by omega), ht 4 (by omega), ht 5 (by omega), ht 6 (by omega), ht 7 (by omega), ht 8 (by omega), ht 9 (by omega), ht 10 (by omega), ht 11 (by omega), ht 12 (by omega), ht 13 (by omega), ht 14 (by omega), ht 15 (by omega), ht 16 (by omega), ht 17 (by omega), ht 18 (by omega), h26, h27]
  generalize a.eval (.tmp 19) = u19
  generalize a.eval (.tmp 20) = u20
  generalize a.eval (.tmp 21) = u21
  generalize a.eval (.tmp 22) = u22
  generalize a.eval (.tmp 23) = u23
  generalize a.eval (.tmp 24) = u24
  generalize a.eval (.tmp 25) = u25
  simp only [Act.eval, Array.getD, List.size_toArray, List.length_cons, List.length_nil, Nat.reduceAdd, Nat.reduceLT, dite_true, List.getElem_toArray, List.getElem_cons_succ, List.getElem_cons_zero, Array.getInternal_eq_getElem]
  clear hB hbn ht hN hd
  go_wp2
  rw [rounds_succ]
  go_wp2
  go_ret
  exact ⟨rfl, hBW⟩
end Go.Proofs.YtpgodgfkbkfpcaaGreat.Tim
