/- valid and Valid at identity and at trace. No condition. -/
import Derived.Test.YtpgodgfkbkfpcaaGreatFon
import Derived.Deep.CutBlock
import Derived.Deep.DeepCutAuto
set_option linter.unusedVariables false
set_option linter.unusedSimpArgs false
namespace Go.Proofs.YtpgodgfkbkfpcaaGreat.Fom
open Go.Shelf Go.RowKit Go.Sort Go.Proofs.YtpgodgfkbkfpcaaGreat.Sra Go.Proofs.YtpgodgfkbkfpcaaGreat.Trb
theorem three {w : World} {g : Nat} {a0 a1 a2 : Value} (h : w.heap[g]? = some (.cells #[a0, a1, a2] 147 (0, 0))) :
    w.cell? ⟨g, 0, none⟩ = some a0 ∧ w.cell? ⟨g, 1, none⟩ = some a1 ∧ w.cell? ⟨g, 2, none⟩ = some a2 := ⟨cell_of_row _ _ 0 _ _ _ h, cell_of_row _ _ 1 _ _ _ h, cell_of_row _ _ 2 _ _ _ h⟩
set_option maxHeartbeats 1000000 in
set_option maxRecDepth 100000 in
theorem valid_id (lp ap : Option Addr) (ll lc al ac : Nat) (W : World) : Calls Tryz.prog 79 #[view lp ll lc ap al ac, Mea.tx 1 (.slice none 0 0) (.slice none 0 0)] W fun e w' => e = .returned (.int .i64 0) ∧ Below W.heap.size W w' := by
  have hform := form_id lp ap ll lc al ac ((W.alloc (.cells #[.slice lp ll lc, .slice ap al ac, .bool false] 147)).alloc (.cells #[.int .i64 1, .slice none 0 0, .slice none 0 0, .slice none 0 0, .int .i64 0, .slice none 0 0, .slice none 0 0, .slice none 0 0, .slice none 0 0] 30))
  unfold view Mea.tx at hform ⊢
  simp only [enc, idRow, trRow] at hform
  go_enter Tryz.func79, Tryz.ntmps79
  go_upto_block 0 with (go_at_call 132; refine hform.mono ?_; rintro e w1 ⟨rfl, hB⟩)
  have v2 : w1.heap[W.heap.size]? = some (.cells #[.slice lp ll lc, .slice ap al ac, .bool false] 147 (0, 0)) := (hB.block W.heap.size (by simp; omega)).trans (heap_on (Tab.new_at _ _ rfl) (below_alloc _ _))
  have v3 : w1.heap[W.heap.size + 1]? = some (.cells #[.int .i64 1, (.slice none 0 0), (.slice none 0 0), .slice none 0 0, .int .i64 0, .slice none 0 0, .slice none 0 0, .slice none 0 0, .slice none 0 0] 30 (0, 0)) := (hB.block (W.heap.size + 1) (by simp)).trans (Tab.new_at _ _ (by simp))
  obtain ⟨n0, n1, n2⟩ := three v2
  obtain ⟨j0, j1, j2, j3, j4, j5, j6, j7, j8⟩ := nine v3
  have x1 : W.heap.size + 1 < w1.heap.size := World.block_lt_of_cell? _ _ j0
  have x0 : W.heap.size < w1.heap.size := by omega
  have x2 : W.heap.size < w1.heap.size + 1 := by omega
  have hBW : Below W.heap.size W w1 := Tab.then_ (((Below.refl _ _).alloc (Nat.le_refl _) _).alloc (by simp) _) (by simp; omega) hB
  clear hB
  clear hform
  go_wp2
  refine wp_loop_rounds 1 ?_
  rw [rounds_succ]
  go_wp2
  go_ret
  exact ⟨rfl, Tab.then_ (Tab.then_ hBW (by omega) (below_alloc _ _)) (by simp; omega) (below_alloc _ _)⟩
set_option maxHeartbeats 1000000 in
set_option maxRecDepth 100000 in
theorem valid_tr (lp ap : Option Addr) (ll lc al ac gn gi : Nat) (W : World) (hn : W.cell? ⟨gn, 0, none⟩ = some (.int .u32 1056964608)) (hi : W.cell? ⟨gi, 0, none⟩ = some (.int .i64 0)) : Calls Tryz.prog 79 #[view lp ll lc ap al ac, Mea.tx 7 (.slice (some ⟨gn, 0, none⟩) 1 1) (.slice (some ⟨gi, 0, none⟩) 1 1)] W fun e w' => e = .returned (.int .i64 0) ∧ Below W.heap.size W w' := by
  have hform := form_tr lp ap ll lc al ac gn gi ((W.alloc (.cells #[.slice lp ll lc, .slice ap al ac, .bool false] 147)).alloc (.cells #[.int .i64 7, .slice (some ⟨gn, 0, none⟩) 1 1, .slice (some ⟨gi, 0, none⟩) 1 1, .slice none 0 0, .int .i64 0, .slice none 0 0, .slice none 0 0, .slice none 0 0, .slice none 0 0] 30)) (by have h1 := World.block_lt_of_cell? _ _ hn; have h2 : gn < W.heap.size + 1 := (by simp at h1; omega); go_simp) (by have h1 := World.block_lt_of_cell? _ _ hi; have h2 : gi < W.heap.size + 1 := (by simp at h1; omega); go_simp)
  unfold view Mea.tx at hform ⊢
  simp only [enc, idRow, trRow] at hform
  go_enter Tryz.func79, Tryz.ntmps79
  go_upto_block 0 with (go_at_call 132; refine hform.mono ?_; rintro e w1 ⟨⟨gt, rfl⟩, hB⟩)
  have v2 : w1.heap[W.heap.size]? = some (.cells #[.slice lp ll lc, .slice ap al ac, .bool false] 147 (0, 0)) := (hB.block W.heap.size (by simp; omega)).trans (heap_on (Tab.new_at _ _ rfl) (below_alloc _ _))
  have v3 : w1.heap[W.heap.size + 1]? = some (.cells #[.int .i64 7, (.slice (some ⟨gn, 0, none⟩) 1 1), (.slice (some ⟨gi, 0, none⟩) 1 1), .slice none 0 0, .int .i64 0, .slice none 0 0, .slice none 0 0, .slice none 0 0, .slice none 0 0] 30 (0, 0)) := (hB.block (W.heap.size + 1) (by simp)).trans (Tab.new_at _ _ (by simp))
  obtain ⟨n0, n1, n2⟩ := three v2
  obtain ⟨j0, j1, j2, j3, j4, j5, j6, j7, j8⟩ := nine v3
  have x1 : W.heap.size + 1 < w1.heap.size := World.block_lt_of_cell? _ _ j0
  have x0 : W.heap.size < w1.heap.size := by omega
  have x2 : W.heap.size < w1.heap.size + 1 := by omega
  have hBW : Below W.heap.size W w1 := Tab.then_ (((Below.refl _ _).alloc (Nat.le_refl _) _).alloc (by simp) _) (by simp; omega) hB
  clear hB
  clear hform
  go_wp2
  refine wp_loop_rounds 1 ?_
  rw [rounds_succ]
  go_wp2
  go_ret
  exact ⟨rfl, Tab.then_ (Tab.then_ hBW (by omega) (below_alloc _ _)) (by simp; omega) (below_alloc _ _)⟩
end Go.Proofs.YtpgodgfkbkfpcaaGreat.Fom
