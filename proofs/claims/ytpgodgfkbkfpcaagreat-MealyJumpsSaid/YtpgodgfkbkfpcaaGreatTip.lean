/- Pieces of one real number: made, each, times, plus. No condition. -/
import Derived.Test.YtpgodgfkbkfpcaaGreatTin
import Derived.Deep.CutBlock
import Derived.Deep.DeepCutAuto
set_option linter.unusedVariables false
set_option linter.unusedSimpArgs false
namespace Go.Proofs.YtpgodgfkbkfpcaaGreat.Tim
open Go.Shelf Go.RowKit Go.Proofs.YtpgodgfkbkfpcaaGreat.Trb Go.Proofs.YtpgodgfkbkfpcaaGreat.Bui
open Lathe (fadd fmul)
theorem cell_far {w : World} {g j g' k : Nat} {v : Value} (h : g ≠ g') : (w.setCell ⟨g, j, none⟩ v).cell? ⟨g', k, none⟩ = w.cell? ⟨g', k, none⟩ := World.cell?_setCell_far w ⟨g, j, none⟩ ⟨g', k, none⟩ v h
theorem five {w : World} {g : Nat} {a0 a1 a2 a3 a4 : Value} (h : w.heap[g]? = some (.cells #[a0, a1, a2, a3, a4] 102 (0, 0))) :
    (w.cell? ⟨g, 0, none⟩ = some a0 ∧ w.cell? ⟨g, 1, none⟩ = some a1 ∧ w.cell? ⟨g, 2, none⟩ = some a2 ∧ w.cell? ⟨g, 3, none⟩ = some a3 ∧ w.cell? ⟨g, 4, none⟩ = some a4) ∧ ∀ k, k < 5 → w.frozen? ⟨g, k, none⟩ = false :=
  ⟨⟨cell_of_row _ _ 0 _ _ _ h, cell_of_row _ _ 1 _ _ _ h, cell_of_row _ _ 2 _ _ _ h, cell_of_row _ _ 3 _ _ _ h, cell_of_row _ _ 4 _ _ _ h⟩, fun k hk => by simp [World.frozen?, h]⟩
theorem results_five {fn : Func} {p : Tmp} (hr : fn.results = #[.cell p 102]) (tmps : Array Value) (w : World) (g : Nat) (v0 v1 v2 v3 v4 : Value) (hp : tmps.getD p undef = .pointer (some ⟨g, 0, none⟩))
    (h0 : w.cell? ⟨g, 0, none⟩ = some v0) (h1 : w.cell? ⟨g, 1, none⟩ = some v1) (h2 : w.cell? ⟨g, 2, none⟩ = some v2) (h3 : w.cell? ⟨g, 3, none⟩ = some v3) (h4 : w.cell? ⟨g, 4, none⟩ = some v4) :
    (results fn tmps).run Tryz.prog w = .ok (.agg #[v0, v1, v2, v3, v4]) w := by
  have hl : (loadCells ⟨g, 0, none⟩ 5).run Tryz.prog w = .ok #[v0, v1, v2, v3, v4] w :=
    run_loadCells_list (P := Tryz.prog) w ⟨g, 0, none⟩ [v0, v1, v2, v3, v4] (fun j v hv => by
      rw [Rin.add_zero]
      have hj : j < 5 := (List.getElem?_eq_some_iff.1 hv).1
      match j, hj with
      | 0, _ => injection hv with hv; subst hv; exact h0
      | 1, _ => injection hv with hv; subst hv; exact h1
      | 2, _ => injection hv with hv; subst hv; exact h2
      | 3, _ => injection hv with hv; subst hv; exact h3
      | 4, _ => injection hv with hv; subst hv; exact h4)
  have hq : Tryz.prog.info? 102 = some Tryz.t102 := by kernel_rfl
  have hs : Tryz.t102.size = 5 := by kernel_rfl
  have hagg : (isAgg 102).run Tryz.prog w = .ok true w := by
    unfold isAgg
    rw [Sem.run_bind, run_underlying Tryz.underlying102 w]
    rfl
  have hp' : tmps[p]?.getD undef = .pointer (some ⟨g, 0, none⟩) := by simpa using hp
  have hv : (loadVar 102 ⟨g, 0, none⟩).run Tryz.prog w = .ok (.agg #[v0, v1, v2, v3, v4]) w := by simp [loadVar, Sem.run_bind, hagg, sizeOf, typeInfo, hq, hs, hl]
  simp [results, hr, hp', asAddr, hv]
set_option maxHeartbeats 1000000 in
set_option maxRecDepth 100000 in
theorem made (F : Nat) (cap : Array Value) (g c : Nat) (x r : Int) (W : World) (h : W.cell? ⟨g, 0, none⟩ = some (.int .u32 x)) (he : ∀ vs w, (callFunc F vs).run Tryz.prog w = .ok (.enter F vs) w)
    (hF : ∀ w, Below W.heap.size W w → Calls Tryz.prog F (#[.int .i64 0, .agg #[.int .u32 x, .int .u32 0]] ++ cap) w fun e w' => (∃ s, e = .returned (.agg #[.int .u32 r, .int .u32 s])) ∧ Below w.heap.size w w') :
    Calls Tryz.prog 180 #[pc g c, .func (.func F) #[] cap] W fun e w' => (∃ g' c', e = .returned (pc g' c') ∧ W.heap.size ≤ g' ∧ w'.cell? ⟨g', 0, none⟩ = some (.int .u32 r)) ∧ Below W.heap.size W w' := by
  have hg : g < W.heap.size := World.block_lt_of_cell? _ _ h
  have hg1 : g < W.heap.size + 1 := by omega
  have hg2 : g < W.heap.size + 1 + 1 := by omega
  unfold pc
  go_enter Tryz.func180, Tryz.ntmps180
  go_wp2
  refine wp_loop_rounds 2 ?_
  rw [rounds_succ]
  go_upto_region 5 with fail
  have hB0 : Below W.heap.size W (((W.alloc (.cells #[.int .i64 0, .int .i64 0, .bool false, .slice (some ⟨g, 0, none⟩) 1 c, .slice none 0 0] 102)).alloc (.cells #[.int .i64 0, .int .i64 0, .bool false, .slice none 0 0, .slice none 0 0] 102)).alloc (.cells #[.int .i64 0, .int .i64 0, .bool false, .slice none 0 0, .slice none 0 0] 102)) := Tab.then_ (Tab.then_ (below_alloc _ _) (by simp) (below_alloc _ _)) (by simp; omega) (below_alloc _ _)
  refine Rin.wp_region_to (l' := ops180) (by kernel_rfl) ?_
  refine reg5 (g5 := W.heap.size + 1 + 1) (F := F) (cap := cap) (x := x) (r := r) rfl rfl rfl rfl rfl (Tab.new_at _ _ (by simp)) he (fun w hb => hF w (Tab.then_ hB0 hB0.size hb)) ?_
  intro a w' g' c' hN hd ht hlt hc' hB
  rw [Rin.act_list 58 a hN hd, show List.range 58 = [0, 1, 2, 3, 4, 5, 6, 7, 8, 9, 10, 11, 12, 13, 14, 15, 16, 17, 18, 19, 20, 21, 22, 23, 24, 25, 26, 27, 28, 29, 30, 31, 32, 33, 34, 35, 36, 37, 38, 39, 40, 41, 42, 43, 44, 45, 46, 47, 48, 49, 50, 51, 52, 53, 54, 55, 56, 57] from rfl]
  simp only [List.map_cons, List.map_nil, ht 0 (by omega), ht 1 (by omega), ht 2 (by omega), ht 3 (by omega), ht 4 (by omega), ht 5 (by omega), ht 6 (by omega), ht 7 (by omega), ht 8 (by omega), ht 9 (by omega), ht 10 (by omega), ht 11 (by omega), ht 12 (by omega), ht 13 (by omega), ht 14 (by omega), ht 15 (by omega), ht 16 (by omega), ht 17 (by omega), ht 18 (by omega), ht 19 (by omega), ht 20 (by omega), ht 21 (by omega), ht 22 (by omega), ht 23 (by omega), ht 24 (by omega)]
  have hBW := Tab.then_ hB0 hB0.size hB
  generalize a.eval (.tmp 25) = u25
  generalize a.eval (.tmp 26) = u26
  generalize a.eval (.tmp 27) = u27
  generalize a.eval (.tmp 28) = u28
  generalize a.eval (.tmp 29) = u29
  generalize a.eval (.tmp 30) = u30
  generalize a.eval (.tmp 31) = u31
  generalize a.eval (.tmp 32) = u32
  generalize a.eval (.tmp 33) = u33
  generalize a.eval (.tmp 34) = u34
  generalize a.eval (.tmp 35) = u35
  generalize a.eval (.tmp 36) = u36
  generalize a.eval (.tmp 37) = u37
  generalize a.eval (.tmp 38) = u38
  generalize a.eval (.tmp 39) = u39
  generalize a.eval (.tmp 40) = u40
  generalize a.eval (.tmp 41) = u41
  generalize a.eval (.tmp 42) = u42
  generalize a.eval (.tmp 43) = u43
  generalize a.eval (.tmp 44) = u44
  generalize a.eval (.tmp 45) = u45
  generalize a.eval (.tmp 46) = u46
  generalize a.eval (.tmp 47) = u47
  generalize a.eval (.tmp 48) = u48
  generalize a.eval (.tmp 49) = u49
  generalize a.eval (.tmp 50) = u50
  generalize a.eval (.tmp 51) = u51
  generalize a.eval (.tmp 52) = u52
  generalize a.eval (.tmp 53) = u53
  generalize a.eval (.tmp 54) = u54
  generalize a.eval (.tmp 55) = u55
  generalize a.eval (.tmp 56) = u56
  generalize a.eval (.tmp 57) = u57
  simp only [Act.eval, Array.getD, List.size_toArray, List.length_cons, List.length_nil, Nat.reduceAdd, Nat.reduceLT, dite_true, List.getElem_toArray, List.getElem_cons_succ, List.getElem_cons_zero, Array.getInternal_eq_getElem]
  obtain ⟨⟨p0, p1, p2, p3, p4⟩, -⟩ := five (heap_on (heap_on (heap_on (heap_alloc_new _ _) (below_alloc _ _)) (below_alloc _ _)) hB)
  obtain ⟨⟨q0, q1, q2, q3, q4⟩, qf⟩ := five (g := W.heap.size + 1) (heap_on (heap_on (Tab.new_at _ _ (by simp)) (below_alloc _ _)) hB)
  obtain ⟨⟨r0, r1, r2, r3, r4⟩, rf⟩ := five (g := W.heap.size + 1 + 1) (heap_on (Tab.new_at _ _ (by simp)) hB)
  have qf0 := qf 0 (by omega)
  have qf1 := qf 1 (by omega)
  have qf2 := qf 2 (by omega)
  have qf3 := qf 3 (by omega)
  have qf4 := qf 4 (by omega)
  have rf3 := rf 3 (by omega)
  clear qf rf
  go_wp2
  rw [rounds_succ]
  go_wp2
  refine wp_loop_rounds 1 ?_
  rw [rounds_succ]
  go_wp2
  (try simp only [Exit.inBlock, Exit.then])
  refine bodyPost_ret (results_five rfl _ _ (W.heap.size + 1) (.int .i64 0) (.int .i64 0) (.bool false) (.slice (some ⟨g', 0, none⟩) 1 c') (.slice none 0 0) rfl (by go_simp) (by go_simp) (by go_simp) (by go_simp) (by go_simp)) rfl ?_
  refine ⟨⟨g', c', rfl, by omega, ?_⟩, ?_⟩
  · iterate 6 rw [cell_far (by omega)]
    exact hc'
  · iterate 6 refine Paz.bs ?_ (by omega)
    exact hBW
end Go.Proofs.YtpgodgfkbkfpcaaGreat.Tim
