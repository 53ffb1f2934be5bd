/- A leaf that traces, at one piece. No condition. -/
import Derived.Test.YtpgodgfkbkfpcaaGreatOne
import Derived.Deep.CutBlock
import Derived.Deep.DeepCutAuto
set_option linter.unusedVariables false
set_option linter.unusedSimpArgs false
namespace Go.Proofs.YtpgodgfkbkfpcaaGreat.Tim
open Go.Shelf Go.RowKit Go.Proofs.YtpgodgfkbkfpcaaGreat.Trb Go.Proofs.YtpgodgfkbkfpcaaGreat.Bui Go.Proofs.YtpgodgfkbkfpcaaGreat.Fom
open Lathe (fadd fmul)
theorem But.beyond {X : List Nat} {w w1 : World} {g j : Nat} {v : Value} (h : But X w w1) (hg : w.heap.size ≤ g) : But X w (w1.setCell ⟨g, j, none⟩ v) :=
  ⟨h.os, h.tape, h.output, by simpa [World.setCell] using h.size, fun k hk hx => (Below.heap_setCell w1 ⟨g, j, none⟩ v k (by show k ≠ g; omega)).trans (h.block k hk hx)⟩
theorem heap_far {w : World} {g j k : Nat} {v : Value} (h : k ≠ g) : (w.setCell ⟨g, j, none⟩ v).heap[k]? = w.heap[k]? := Below.heap_setCell w ⟨g, j, none⟩ v k h
theorem Ke.put {w : World} {k g c : Nat} (h : Ke w k g c) (g' c' : Nat) : Ke (((((w.setCell ⟨k, 0, none⟩ (.int .i64 0)).setCell ⟨k, 1, none⟩ (.int .i64 0)).setCell ⟨k, 2, none⟩ (.bool false)).setCell ⟨k, 3, none⟩ (.slice (some ⟨g', 0, none⟩) 1 c')).setCell ⟨k, 4, none⟩ (.slice none 0 0)) k g' c' := by
  obtain ⟨c0, c1, c2, c3, c4, fz⟩ := h
  refine ⟨by go_simp, by go_simp, by go_simp, by go_simp, by go_simp, fun j hj => ?_⟩
  simp only [World.frozen?_setCell]
  exact fz j hj
set_option maxHeartbeats 1000000 in
set_option maxRecDepth 100000 in
theorem one_tr (k gk gn gi gx cx gm cm pg pc1 : Nat) (n : Int) (kept : Value) (x m : Int) (W : World) (hL : Lea W k n 7 (.slice (some ⟨gn, 0, none⟩) 1 1) (.slice (some ⟨gi, 0, none⟩) 1 1) kept) (hk : Ke W gk gm cm)
    (hn : W.cell? ⟨gn, 0, none⟩ = some (.int .u32 1056964608)) (hi : W.cell? ⟨gi, 0, none⟩ = some (.int .i64 0)) (hx : W.cell? ⟨gx, 0, none⟩ = some (.int .u32 x)) (hm : W.cell? ⟨gm, 0, none⟩ = some (.int .u32 m)) (hgi : gi ≠ gk) :
    Calls Tryz.prog 321 #[.pointer (some ⟨k, 0, none⟩), .pointer (some ⟨gk, 0, none⟩), pc gx cx, pc pg pc1] W fun e w' => (∃ g c, e = .returned (pc g c) ∧ W.heap.size ≤ g ∧ w'.cell? ⟨g, 0, none⟩ = some (.int .u32 (fadd x.toNat (fmul 1056964608 m.toNat) : Nat)) ∧ Ke w' gk g c) ∧ But [gk] W w' := by
  obtain ⟨l0, lf, l1, l2, l3, l4, l5, l6, l7, l8, l9, l10⟩ := hL
  have y0 : k < W.heap.size := World.block_lt_of_cell? _ _ l0
  have y1 : k < W.heap.size + 1 := by omega
  have y2 : k < W.heap.size + 1 + 1 := by omega
  have y3 : k < W.heap.size + 1 + 1 + 1 := by omega
  have y4 : k < W.heap.size + 1 + 1 + 1 + 1 := by omega
  have hB0 : Below W.heap.size W (((((W.alloc (.cells #[.pointer (some ⟨gk, 0, none⟩)] 334)).alloc (.cells #[.int .i64 0, .int .i64 0, .bool false, .slice (some ⟨gx, 0, none⟩) 1 cx, .slice none 0 0] 102)).alloc (.cells #[.int .i64 0, .int .i64 0, .bool false, .slice (some ⟨pg, 0, none⟩) 1 pc1, .slice none 0 0] 102)).alloc (.cells #[.int .i64 0, .int .i64 0, .bool false, .slice none 0 0, .slice none 0 0] 102)).alloc (.cells #[.int .i64 7, .slice (some ⟨gn, 0, none⟩) 1 1, .slice (some ⟨gi, 0, none⟩) 1 1, .slice none 0 0, .int .i64 0, .slice none 0 0, .slice none 0 0, .slice none 0 0, .slice none 0 0] 30)) :=
    Tab.then_ (Tab.then_ (Tab.then_ (Tab.then_ (below_alloc _ _) (by simp) (below_alloc _ _)) (by simp; omega) (below_alloc _ _)) (by simp; omega) (below_alloc _ _)) (by simp; omega) (below_alloc _ _)
  unfold pc
  go_enter Tryz.func321, Tryz.ntmps321
  go_upto_region 14 with fail
  have z0 : gk < W.heap.size := World.block_lt_of_cell? _ _ hk.c0
  have z1 : gi < W.heap.size := World.block_lt_of_cell? _ _ hi
  have g5 := heap_on (heap_on (heap_on (heap_on (heap_alloc_new W (.cells #[.pointer (some ⟨gk, 0, none⟩)] 334)) (below_alloc _ (.cells #[.int .i64 0, .int .i64 0, .bool false, .slice (some ⟨gx, 0, none⟩) 1 cx, .slice none 0 0] 102))) (below_alloc _ (.cells #[.int .i64 0, .int .i64 0, .bool false, .slice (some ⟨pg, 0, none⟩) 1 pc1, .slice none 0 0] 102))) (below_alloc _ (.cells #[.int .i64 0, .int .i64 0, .bool false, .slice none 0 0, .slice none 0 0] 102))) (below_alloc _ (.cells #[.int .i64 7, .slice (some ⟨gn, 0, none⟩) 1 1, .slice (some ⟨gi, 0, none⟩) 1 1, .slice none 0 0, .int .i64 0, .slice none 0 0, .slice none 0 0, .slice none 0 0, .slice none 0 0] 30))
  go_cut [0, 1, 2, 3, 4, 5, 6, 7, 8, 9, 10, 11, 12, 13, 14, 15, 16, 17, 18, 19, 20, 21] from 22 (fun v0 v1 v2 v3 v4 v5 v6 v7 v8 v9 v10 v11 v12 v13 v14 v15 v16 v17 v18 v19 v20 v21 w => ∃ g c p, v5 = .pointer (some ⟨W.heap.size, 0, none⟩) ∧ v8 = .pointer (some ⟨W.heap.size + 1 + 1 + 1, 0, none⟩) ∧ v9 = .pointer (some ⟨W.heap.size + 1 + 1 + 1 + 1, 0, none⟩) ∧ v12 = .pointer (some ⟨p, 0, none⟩) ∧ W.heap.size + 5 ≤ p ∧ W.heap.size + 5 ≤ g ∧ p ≠ g ∧ w.heap[p]? = some (.cells #[.int .i64 0, .int .i64 0, .bool false, .slice (some ⟨g, 0, none⟩) 1 c, .slice none 0 0] 102 (0, 0)) ∧ w.cell? ⟨g, 0, none⟩ = some (.int .u32 (fadd x.toNat (fmul 1056964608 m.toNat) : Nat)) ∧
      w.heap[W.heap.size]? = some (.cells #[.pointer (some ⟨gk, 0, none⟩)] 334 (0, 0)) ∧ w.heap[W.heap.size + 1 + 1 + 1]? = some (.cells #[.int .i64 0, .int .i64 0, .bool false, .slice none 0 0, .slice none 0 0] 102 (0, 0)) ∧ w.heap[W.heap.size + 1 + 1 + 1 + 1]? = some (.cells #[.int .i64 7, .slice (some ⟨gn, 0, none⟩) 1 1, .slice (some ⟨gi, 0, none⟩) 1 1, .slice none 0 0, .int .i64 0, .slice none 0 0, .slice none 0 0, .slice none 0 0, .slice none 0 0] 30 (0, 0)) ∧ Below W.heap.size W w)
  case first =>
    rename_i J K' hJ hK
    refine Rin.wp_region_to (l' := ops321) (by kernel_rfl) ?_
    refine reg14 (b5 := W.heap.size) (b6 := W.heap.size + 1) (b9 := W.heap.size + 1 + 1 + 1 + 1) (gk := gk) (gn := gn) (gx := gx) (cx := cx) (gm := gm) (cm := cm) (x := x) (m := m) rfl rfl rfl rfl (cell_of_row _ _ 0 _ _ _ g5) (heap_on (heap_on (heap_on (Tab.new_at _ _ (by simp)) (below_alloc _ _)) (below_alloc _ _)) (below_alloc _ _)) (cell_of_row _ _ 1 _ _ _ (Tab.new_at _ _ (by simp)))
      (hk.same (hB0.block gk z0)) ((hB0.cell (World.block_lt_of_cell? _ _ hn)).trans hn) ((hB0.cell (World.block_lt_of_cell? _ _ hx)).trans hx) ((hB0.cell (World.block_lt_of_cell? _ _ hm)).trans hm) ?_
    intro a w g c p hN hd ht h12 hp hg hne hpp hcg hB
    refine hK _ _ (Met.intro (hJ _ _ ?_))
    (repeat apply Exists.intro)
    refine ⟨?_, Rin.act_list 199 _ hN hd⟩
    refine ⟨g, c, p, (ht 5 (by omega) (by omega)).trans rfl, (ht 8 (by omega) (by omega)).trans rfl, (ht 9 (by omega) (by omega)).trans rfl, h12, by simpa using hp, by simpa using hg, hne, hpp, hcg, heap_on g5 hB, heap_on (heap_on (Tab.new_at _ _ (by simp)) (below_alloc _ _)) hB, heap_on (Tab.new_at _ _ (by simp)) hB, Tab.then_ hB0 hB0.size hB⟩
  case rest =>
    obtain ⟨g, c, p, rfl, rfl, rfl, rfl, hp, hg, hne, hpp, hcg, h5, h8, h9, hB⟩ := hcut
    have d5 := cell_of_row _ _ 0 _ _ _ h5
    obtain ⟨⟨p0, p1, p2, p3, p4⟩, -⟩ := five hpp
    obtain ⟨⟨q0, q1, q2, q3, q4⟩, qf⟩ := five h8
    obtain ⟨n0, n1, n2, n3, n4, n5, n6, n7, n8⟩ := nine h9
    have qf0 := qf 0 (by omega)
    have qf1 := qf 1 (by omega)
    have qf2 := qf 2 (by omega)
    have qf3 := qf 3 (by omega)
    have qf4 := qf 4 (by omega)
    have hk2 := hk.same (hB.block gk z0)
    have hi2 := (hB.cell (World.block_lt_of_cell? _ _ hi)).trans hi
    have hput := hk2.put g c
    have HP : Hid _ := hput
    obtain ⟨k0, k1, k2, k3, k4, kf⟩ := hk2
    have kf0 := kf 0 (by omega)
    have kf1 := kf 1 (by omega)
    have kf2 := kf 2 (by omega)
    have kf3 := kf 3 (by omega)
    have kf4 := kf 4 (by omega)
    have e1 : gk ≠ W.heap.size + 1 + 1 + 1 := by omega
    have e2 : gk ≠ W.heap.size + 1 + 1 + 1 + 1 := by omega
    have e3 : W.heap.size + 1 + 1 + 1 ≠ gk := by omega
    have e4 : W.heap.size + 1 + 1 + 1 + 1 ≠ gk := by omega
    have e5 : gk ≠ p := by omega
    have e6 : p ≠ gk := by omega
    have e7 : gk ≠ gi := Ne.symm hgi
    clear qf kf hput hB0 g5 h5 h8 h9 hpp hk hi hn hm hx l0 lf l1 l2 l3 l4 l5 l6 l7 l8 l9 l10
    go_wp2
    (try simp only [Exit.inBlock, Exit.then])
    refine bodyPost_ret (results_five rfl _ _ (W.heap.size + 1 + 1 + 1) (.int .i64 0) (.int .i64 0) (.bool false) (.slice (some ⟨g, 0, none⟩) 1 c) (.slice none 0 0) rfl (by go_simp) (by go_simp) (by go_simp) (by go_simp) (by go_simp)) rfl ?_
    refine ⟨⟨g, c, rfl, by omega, ?_, HP.out.same ?_⟩, ?_⟩
    · iterate 10 rw [cell_far (by omega)]
      exact hcg
    · iterate 5 rw [heap_far (by omega)]
    · have hb0 : But [gk] W wc := ⟨hB.os, hB.tape, hB.output, hB.size, fun k hk _ => hB.block k hk⟩
      iterate 5 refine But.beyond ?_ (by omega)
      iterate 5 refine But.set ?_ (by simp) _
      exact hb0
end Go.Proofs.YtpgodgfkbkfpcaaGreat.Tim
