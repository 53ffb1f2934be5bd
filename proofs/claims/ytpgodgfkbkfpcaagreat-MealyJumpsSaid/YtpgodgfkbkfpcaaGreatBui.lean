/- New at identity. No condition. -/
import Derived.Test.YtpgodgfkbkfpcaaGreatFor
set_option linter.unusedVariables false
set_option linter.unusedSimpArgs false
namespace Go.Proofs.YtpgodgfkbkfpcaaGreat.Bui
open Go.Shelf Go.RowKit Go.Proofs.YtpgodgfkbkfpcaaGreat.Trb Go.Proofs.YtpgodgfkbkfpcaaGreat.Fom
set_option maxHeartbeats 400000 in
set_option maxRecDepth 100000 in
theorem blank0 (lp : Option Addr) (ll lc : Nat) (W : World) : Calls Tryz.prog 80 #[.slice lp ll lc, .slice none 0 0, .bool false] W fun e w' => e = .returned (.slice none 0 0) ∧ Below W.heap.size W w' := by
  go_enter Tryz.func80, Tryz.ntmps80
  go_wp2
  refine wp_loop_rounds 1 ?_
  rw [rounds_succ]
  go_wp2
  go_ret
  exact ⟨rfl, Below.refl _ _⟩
set_option maxHeartbeats 1000000 in
set_option maxRecDepth 100000 in
theorem build_id (lp : Option Addr) (ll lc : Nat) (W : World) : Calls Tryz.prog 51 #[.slice lp ll lc, .slice none 0 0, .bool false, Mea.tx 1 (.slice none 0 0) (.slice none 0 0)] W fun e w' => (∃ k, e = .returned (.iface 165 (.pointer (some ⟨k, 0, none⟩))) ∧ W.heap.size ≤ k ∧ w'.heap[k]? = some (.cells #[.int .i64 0, .int .i64 1, .slice none 0 0, .slice none 0 0, .slice none 0 0, .int .i64 0, .slice none 0 0, .slice none 0 0, .slice none 0 0, .slice none 0 0, .slice none 0 0] 168 (0, 0))) ∧ Below W.heap.size W w' := by
  unfold Mea.tx
  go_enter Tryz.func51, Tryz.ntmps51
  go_upto_block 0 with (go_at_call 80; refine (blank0 _ _ _ _).mono ?_; rintro e w1 ⟨rfl, hb⟩; have v2 : w1.heap[W.heap.size]? = some (.cells #[.int .i64 1, .slice none 0 0, .slice none 0 0, .slice none 0 0, .int .i64 0, .slice none 0 0, .slice none 0 0, .slice none 0 0, .slice none 0 0] 30 (0, 0)) := heap_on (heap_alloc_new _ _) hb; obtain ⟨j0, j1, j2, j3, j4, j5, j6, j7, j8⟩ := nine v2)
  have x0 : W.heap.size < w1.heap.size := World.block_lt_of_cell? _ _ j0
  have hB1 : Below W.heap.size W w1 := Tab.then_ (below_alloc _ _) (by simp) hb
  go_wp2
  refine wp_loop_rounds 1 ?_
  rw [rounds_succ]
  go_wp2
  go_ret
  refine ⟨⟨w1.heap.size, rfl, by omega, heap_alloc_new _ _⟩, Tab.then_ hB1 (by omega) (below_alloc _ _)⟩
end Go.Proofs.YtpgodgfkbkfpcaaGreat.Bui
