/- Pieces of one real number: each, times, plus. No condition. -/
import Derived.Test.YtpgodgfkbkfpcaaGreatTip
set_option linter.unusedVariables false
set_option linter.unusedSimpArgs false
namespace Go.Proofs.YtpgodgfkbkfpcaaGreat.Tim
open Go.Shelf Go.RowKit Go.Proofs.YtpgodgfkbkfpcaaGreat.Trb Go.Proofs.YtpgodgfkbkfpcaaGreat.Bui
open Lathe (fadd fmul)
theorem results_two {fn : Func} {p : Tmp} (hr : fn.results = #[.cell p 105]) (tmps : Array Value) (w : World) (g : Nat) (v0 v1 : Value) (hp : tmps.getD p undef = .pointer (some ⟨g, 0, none⟩))
    (h0 : w.cell? ⟨g, 0, none⟩ = some v0) (h1 : w.cell? ⟨g, 1, none⟩ = some v1) : (results fn tmps).run Tryz.prog w = .ok (.agg #[v0, v1]) w := by
  have hl : (loadCells ⟨g, 0, none⟩ 2).run Tryz.prog w = .ok #[v0, v1] w :=
    run_loadCells_list (P := Tryz.prog) w ⟨g, 0, none⟩ [v0, v1] (fun j v hv => by
      rw [Rin.add_zero]
      have hj : j < 2 := (List.getElem?_eq_some_iff.1 hv).1
      match j, hj with
      | 0, _ => injection hv with hv; subst hv; exact h0
      | 1, _ => injection hv with hv; subst hv; exact h1)
  have hq : Tryz.prog.info? 105 = some Tryz.t105 := by kernel_rfl
  have hs : Tryz.t105.size = 2 := by kernel_rfl
  have hagg : (isAgg 105).run Tryz.prog w = .ok true w := by
    unfold isAgg
    rw [Sem.run_bind, run_underlying Tryz.underlying105 w]
    rfl
  have hp' : tmps[p]?.getD undef = .pointer (some ⟨g, 0, none⟩) := by simpa using hp
  have hv : (loadVar 105 ⟨g, 0, none⟩).run Tryz.prog w = .ok (.agg #[v0, v1]) w := by simp [loadVar, Sem.run_bind, hagg, sizeOf, typeInfo, hq, hs, hl]
  simp [results, hr, hp', asAddr, hv]
theorem below_drewN (w : World) (q : Nat) : Below w.heap.size w (w.drewN q) := ⟨rfl, rfl, rfl, Nat.le_refl _, fun _ _ => rfl⟩
set_option maxHeartbeats 400000 in
set_option maxRecDepth 100000 in
theorem timesc (b : Nat) (k x : Int) (W : World) (hk : W.cell? ⟨b, 0, none⟩ = some (.int .u32 k)) : Calls Tryz.prog 325 #[.int .i64 0, .int .u32 x, .pointer (some ⟨b, 0, none⟩)] W fun e w' => e = .returned (.int .u32 (fmul k.toNat x.toNat : Nat)) ∧ Below W.heap.size W w' := by
  go_enter Tryz.func325, Tryz.ntmps325
  go_wp2_with (go_at_call 292; refine (Meb.Mul _ _ _).mono ?_; rintro e w' ⟨rfl, q, rfl⟩)
  go_ret
  exact ⟨rfl, below_drewN _ _⟩
set_option maxHeartbeats 400000 in
set_option maxRecDepth 100000 in
theorem eachc (p f b : Nat) (k x : Int) (W : World) (hp : W.cell? ⟨p, 2, none⟩ = some (.bool false)) (hf : W.cell? ⟨f, 0, none⟩ = some (.func (.func 325) #[] #[.pointer (some ⟨b, 0, none⟩)])) (hk : W.cell? ⟨b, 0, none⟩ = some (.int .u32 k)) :
    Calls Tryz.prog 181 #[.int .i64 0, .agg #[.int .u32 x, .int .u32 0], .pointer (some ⟨p, 0, none⟩), .pointer (some ⟨f, 0, none⟩)] W fun e w' => (∃ s, e = .returned (.agg #[.int .u32 (fmul k.toNat x.toNat : Nat), .int .u32 s])) ∧ Below W.heap.size W w' := by
  have h1 : p < W.heap.size := World.block_lt_of_cell? _ _ hp
  have h2 : f < W.heap.size := World.block_lt_of_cell? _ _ hf
  have h3 : b < W.heap.size := World.block_lt_of_cell? _ _ hk
  have h4 : p < W.heap.size + 1 := by omega
  have h5 : f < W.heap.size + 1 := by omega
  have h6 : b < W.heap.size + 1 := by omega
  go_enter Tryz.func181, Tryz.ntmps181
  go_wp2_with (go_at_call 325; refine (timesc b k x _ (by go_simp)).mono ?_; rintro e w1 ⟨rfl, hb⟩; have m0 : w1.cell? ⟨W.heap.size + 1, 0, none⟩ = some (.int .u32 0) := (hb.cell (p := ⟨W.heap.size + 1, 0, none⟩) (by simp)).trans (by go_simp); have m1 : w1.cell? ⟨W.heap.size + 1, 1, none⟩ = some (.int .u32 0) := (hb.cell (p := ⟨W.heap.size + 1, 1, none⟩) (by simp)).trans (by go_simp); have mh : w1.heap[W.heap.size + 1]? = some (.cells #[.int .u32 0, .int .u32 0] 105 (0, 0)) := heap_on (Tab.new_at _ _ (by simp)) hb; have f0 : w1.frozen? ⟨W.heap.size + 1, 0, none⟩ = false := (by simp [World.frozen?, mh]); have f1 : w1.frozen? ⟨W.heap.size + 1, 1, none⟩ = false := (by simp [World.frozen?, mh]); clear mh)
  (try simp only [Exit.inBlock, Exit.then])
  refine bodyPost_ret (results_two rfl _ _ (W.heap.size + 1) _ _ rfl (by rw [World.cell?_setCell_other _ _ _ _ (by simp)]; exact World.cell?_setCell_same _ _ _ m0) (World.cell?_setCell_same _ _ (.int .u32 0) (by rw [World.cell?_setCell_other _ _ _ _ (by simp)]; exact m1))) rfl ?_
  exact ⟨⟨_, rfl⟩, Paz.bs (Paz.bs (Tab.then_ (Tab.then_ (below_alloc _ _) (by simp) (below_alloc _ _)) (by simp; omega) hb) (by omega)) (by omega)⟩
theorem ent181 : ∀ vs w, (callFunc 181 vs).run Tryz.prog w = .ok (.enter 181 vs) w := enters_of Tryz.func181 (by kernel_rfl) rfl
theorem ent311 : ∀ vs w, (callFunc 311 vs).run Tryz.prog w = .ok (.enter 311 vs) w := enters_of Tryz.func311 (by kernel_rfl) rfl
set_option maxHeartbeats 1000000 in
set_option maxRecDepth 100000 in
theorem each_ (g c b : Nat) (k x : Int) (W : World) (h : W.cell? ⟨g, 0, none⟩ = some (.int .u32 x)) (hk : W.cell? ⟨b, 0, none⟩ = some (.int .u32 k)) :
    Calls Tryz.prog 136 #[pc g c, .func (.func 325) #[] #[.pointer (some ⟨b, 0, none⟩)]] W fun e w' => (∃ g' c', e = .returned (pc g' c') ∧ W.heap.size ≤ g' ∧ w'.cell? ⟨g', 0, none⟩ = some (.int .u32 (fmul k.toNat x.toNat : Nat))) ∧ Below W.heap.size W w' := by
  have hg : g < W.heap.size := World.block_lt_of_cell? _ _ h
  have hb : b < W.heap.size := World.block_lt_of_cell? _ _ hk
  have hB0 : Below W.heap.size W (((W.alloc (.cells #[.int .i64 0, .int .i64 0, .bool false, .slice (some ⟨g, 0, none⟩) 1 c, .slice none 0 0] 102)).alloc (.cells #[.func (.func 325) #[] #[.pointer (some ⟨b, 0, none⟩)]] 213)).alloc (.cells #[.int .i64 0, .int .i64 0, .bool false, .slice none 0 0, .slice none 0 0] 102)) := Tab.then_ (Tab.then_ (below_alloc _ _) (by simp) (below_alloc _ _)) (by simp; omega) (below_alloc _ _)
  have hmd := made 181 #[.pointer (some ⟨W.heap.size, 0, none⟩), .pointer (some ⟨W.heap.size + 1, 0, none⟩)] g c x (fmul k.toNat x.toNat : Nat) _ ((hB0.cell (p := ⟨g, 0, none⟩) hg).trans h) ent181 (fun w hB => eachc W.heap.size (W.heap.size + 1) b k x w
    (cell_of_row _ _ 2 _ _ _ (heap_on (heap_on (heap_on (heap_alloc_new _ _) (below_alloc _ _)) (below_alloc _ _)) hB)) (cell_of_row _ _ 0 _ _ _ (heap_on (heap_on (Tab.new_at _ _ (by simp)) (below_alloc _ _)) hB)) (((Tab.then_ hB0 hB0.size hB).cell (p := ⟨b, 0, none⟩) hb).trans hk))
  unfold pc at hmd ⊢
  go_enter Tryz.func136, Tryz.ntmps136
  go_wp2_with (go_at_call 180; refine hmd.mono ?_; rintro e w1 ⟨⟨g', c', rfl, hg', hc'⟩, hb1⟩; have mh : w1.heap[W.heap.size + 1 + 1]? = some (.cells #[.int .i64 0, .int .i64 0, .bool false, .slice none 0 0, .slice none 0 0] 102 (0, 0)) := heap_on (Tab.new_at _ _ (by simp)) hb1; obtain ⟨⟨q0, q1, q2, q3, q4⟩, qf⟩ := five mh; have qf0 := qf 0 (by omega); have qf1 := qf 1 (by omega); have qf2 := qf 2 (by omega); have qf3 := qf 3 (by omega); have qf4 := qf 4 (by omega); clear qf mh)
  (try simp only [Exit.inBlock, Exit.then])
  refine bodyPost_ret (results_five rfl _ _ (W.heap.size + 1 + 1) (.int .i64 0) (.int .i64 0) (.bool false) (.slice (some ⟨g', 0, none⟩) 1 c') (.slice none 0 0) rfl (by go_simp) (by go_simp) (by go_simp) (by go_simp) (by go_simp)) rfl ?_
  have hg'' : W.heap.size + 3 ≤ g' := by simpa using hg'
  refine ⟨⟨g', c', rfl, by omega, ?_⟩, ?_⟩
  · iterate 5 rw [cell_far (by omega)]
    exact hc'
  · iterate 5 refine Paz.bs ?_ (by omega)
    exact Tab.then_ hB0 hB0.size hb1
set_option maxHeartbeats 1000000 in
set_option maxRecDepth 100000 in
theorem times (g c : Nat) (k x : Int) (W : World) (h : W.cell? ⟨g, 0, none⟩ = some (.int .u32 x)) :
    Calls Tryz.prog 318 #[pc g c, .int .u32 k] W fun e w' => (∃ g' c', e = .returned (pc g' c') ∧ W.heap.size ≤ g' ∧ w'.cell? ⟨g', 0, none⟩ = some (.int .u32 (fmul k.toNat x.toNat : Nat))) ∧ Below W.heap.size W w' := by
  have hg : g < W.heap.size := World.block_lt_of_cell? _ _ h
  have hB0 : Below W.heap.size W (((W.alloc (.cells #[.int .i64 0, .int .i64 0, .bool false, .slice (some ⟨g, 0, none⟩) 1 c, .slice none 0 0] 102)).alloc (.cells #[.int .u32 k] 81)).alloc (.cells #[.int .i64 0, .int .i64 0, .bool false, .slice none 0 0, .slice none 0 0] 102)) := Tab.then_ (Tab.then_ (below_alloc _ _) (by simp) (below_alloc _ _)) (by simp; omega) (below_alloc _ _)
  have hmd := each_ g c (W.heap.size + 1) k x _ ((hB0.cell (p := ⟨g, 0, none⟩) hg).trans h) (cell_of_row _ _ 0 _ _ _ (heap_on (Tab.new_at _ _ (by simp)) (below_alloc _ _)))
  unfold pc at hmd ⊢
  go_enter Tryz.func318, Tryz.ntmps318
  go_wp2_with (go_at_call 136; refine hmd.mono ?_; rintro e w1 ⟨⟨g', c', rfl, hg', hc'⟩, hb1⟩; have mh : w1.heap[W.heap.size + 1 + 1]? = some (.cells #[.int .i64 0, .int .i64 0, .bool false, .slice none 0 0, .slice none 0 0] 102 (0, 0)) := heap_on (Tab.new_at _ _ (by simp)) hb1; obtain ⟨⟨q0, q1, q2, q3, q4⟩, qf⟩ := five mh; have qf0 := qf 0 (by omega); have qf1 := qf 1 (by omega); have qf2 := qf 2 (by omega); have qf3 := qf 3 (by omega); have qf4 := qf 4 (by omega); clear qf mh)
  (try simp only [Exit.inBlock, Exit.then])
  refine bodyPost_ret (results_five rfl _ _ (W.heap.size + 1 + 1) (.int .i64 0) (.int .i64 0) (.bool false) (.slice (some ⟨g', 0, none⟩) 1 c') (.slice none 0 0) rfl (by go_simp) (by go_simp) (by go_simp) (by go_simp) (by go_simp)) rfl ?_
  have hg'' : W.heap.size + 3 ≤ g' := by simpa using hg'
  refine ⟨⟨g', c', rfl, by omega, ?_⟩, ?_⟩
  · iterate 5 rw [cell_far (by omega)]
    exact hc'
  · iterate 5 refine Paz.bs ?_ (by omega)
    exact Tab.then_ hB0 hB0.size hb1
set_option maxHeartbeats 1000000 in
set_option maxRecDepth 100000 in
theorem plus (g c g2 c2 : Nat) (x y : Int) (W : World) (h : W.cell? ⟨g, 0, none⟩ = some (.int .u32 x)) (h2 : W.cell? ⟨g2, 0, none⟩ = some (.int .u32 y)) :
    Calls Tryz.prog 303 #[pc g c, pc g2 c2] W fun e w' => (∃ g' c', e = .returned (pc g' c') ∧ W.heap.size ≤ g' ∧ w'.cell? ⟨g', 0, none⟩ = some (.int .u32 (fadd x.toNat y.toNat : Nat))) ∧ Below W.heap.size W w' := by
  have hg : g < W.heap.size := World.block_lt_of_cell? _ _ h
  have hg2 : g2 < W.heap.size := World.block_lt_of_cell? _ _ h2
  have hB0 : Below W.heap.size W (((W.alloc (.cells #[.int .i64 0, .int .i64 0, .bool false, .slice (some ⟨g, 0, none⟩) 1 c, .slice none 0 0] 102)).alloc (.cells #[.int .i64 0, .int .i64 0, .bool false, .slice (some ⟨g2, 0, none⟩) 1 c2, .slice none 0 0] 102)).alloc (.cells #[.int .i64 0, .int .i64 0, .bool false, .slice none 0 0, .slice none 0 0] 102)) := Tab.then_ (Tab.then_ (below_alloc _ _) (by simp) (below_alloc _ _)) (by simp; omega) (below_alloc _ _)
  have hmd := made 311 #[.pointer (some ⟨W.heap.size + 1, 0, none⟩)] g c x (fadd x.toNat y.toNat : Nat) _ ((hB0.cell (p := ⟨g, 0, none⟩) hg).trans h) ent311 (fun w hB => plusc (W.heap.size + 1) g2 c2 x y w (heap_on (heap_on (Tab.new_at _ _ (by simp)) (below_alloc _ _)) hB) (((Tab.then_ hB0 hB0.size hB).cell (p := ⟨g2, 0, none⟩) hg2).trans h2))
  unfold pc at hmd ⊢
  go_enter Tryz.func303, Tryz.ntmps303
  go_wp2_with (go_at_call 180; refine hmd.mono ?_; rintro e w1 ⟨⟨g', c', rfl, hg', hc'⟩, hb1⟩; have mh : w1.heap[W.heap.size + 1 + 1]? = some (.cells #[.int .i64 0, .int .i64 0, .bool false, .slice none 0 0, .slice none 0 0] 102 (0, 0)) := heap_on (Tab.new_at _ _ (by simp)) hb1; obtain ⟨⟨q0, q1, q2, q3, q4⟩, qf⟩ := five mh; have qf0 := qf 0 (by omega); have qf1 := qf 1 (by omega); have qf2 := qf 2 (by omega); have qf3 := qf 3 (by omega); have qf4 := qf 4 (by omega); clear qf mh)
  (try simp only [Exit.inBlock, Exit.then])
  refine bodyPost_ret (results_five rfl _ _ (W.heap.size + 1 + 1) (.int .i64 0) (.int .i64 0) (.bool false) (.slice (some ⟨g', 0, none⟩) 1 c') (.slice none 0 0) rfl (by go_simp) (by go_simp) (by go_simp) (by go_simp) (by go_simp)) rfl ?_
  have hg'' : W.heap.size + 3 ≤ g' := by simpa using hg'
  refine ⟨⟨g', c', rfl, by omega, ?_⟩, ?_⟩
  · iterate 5 rw [cell_far (by omega)]
    exact hc'
  · iterate 5 refine Paz.bs ?_ (by omega)
    exact Tab.then_ hB0 hB0.size hb1
end Go.Proofs.YtpgodgfkbkfpcaaGreat.Tim
