/- The makers of a row's arguments. No condition. -/
import Derived.Test.YtpgodgfkbkfpcaaGreatProg
import Derived.Below
import Derived.BigQuiet
import Derived.Deep.QuietTactic
import Derived.WalkKit
import Derived.ProofKit
import Derived.RowKit
import Derived.Laws.EntriesVeiled
import Derived.Laws.Rows
import Derived.Laws.IdiomRangeMap
set_option linter.unusedVariables false
set_option linter.unusedSimpArgs false
namespace Go.Proofs.YtpgodgfkbkfpcaaGreat.Tab
open Go.RowKit
theorem new_blk (w : World) (o : Obj) : (w.alloc o).heap[w.heap.size]? = some o := heap_alloc_new w o
theorem new_at (w : World) (o : Obj) {n : Nat} (h : w.heap.size = n) : (w.alloc o).heap[n]? = some o := by rw [← h]; exact heap_alloc_new w o
theorem then_ {n : Nat} {a w w2 : World} (h : Below n a w) (hn : n ≤ w.heap.size) (k : Below w.heap.size w w2) : Below n a w2 := h.trans ⟨k.os, k.tape, k.output, k.size, fun g hg => k.block g (Nat.lt_of_lt_of_le hg hn)⟩
/-- An argument of a row, as a value: its name, its sort, its text, which numbers may stand there, the least and the greatest whole. -/
def arg (nm : ByteArray) (sort : Int) (tx : ByteArray) (fits : Value) (lo hi : Int) : Value := .agg #[.string nm, .int .i64 sort, .string tx, fits, .int .i64 lo, .int .i64 hi]
set_option maxHeartbeats 400000 in
set_option maxRecDepth 100000 in
theorem n (nm tx : ByteArray) (g : Nat) (W : World) : Calls Tryz.prog 199 #[.string nm, .func (.func g) #[] #[], .string tx] W fun e w' => e = .returned (arg nm 0 tx (.func (.func g) #[] #[]) 0 0) ∧ ∃ o, w' = W.alloc o := by
  go_enter Tryz.func199, Tryz.ntmps199
  go_wp2
  refine bodyPost_ret (results_cell_row rfl _ _ W.heap.size 244 #[.string nm, .int .i64 0, .string tx, .func (.func g) #[] #[], .int .i64 0, .int .i64 0] (0, 0) _ rfl (new_blk W _) Tryz.underlying244 rfl (by kernel_rfl)) rfl ?_
  exact ⟨rfl, _, rfl⟩
set_option maxHeartbeats 400000 in
set_option maxRecDepth 100000 in
theorem f (nm tx : ByteArray) (W : World) : Calls Tryz.prog 204 #[.string nm, .string tx] W fun e w' => e = .returned (arg nm 2 tx .nilFunc 0 0) ∧ ∃ o, w' = W.alloc o := by
  go_enter Tryz.func204, Tryz.ntmps204
  go_wp2
  refine bodyPost_ret (results_cell_row rfl _ _ W.heap.size 244 #[.string nm, .int .i64 2, .string tx, .nilFunc, .int .i64 0, .int .i64 0] (0, 0) _ rfl (new_blk W _) Tryz.underlying244 rfl (by kernel_rfl)) rfl ?_
  exact ⟨rfl, _, rfl⟩
set_option maxHeartbeats 400000 in
set_option maxRecDepth 100000 in
theorem w (nm tx : ByteArray) (lo hi : Int) (W : World) : Calls Tryz.prog 207 #[.string nm, .int .i64 lo, .int .i64 hi, .string tx] W fun e w' => e = .returned (arg nm 1 tx .nilFunc lo hi) ∧ ∃ o, w' = W.alloc o := by
  go_enter Tryz.func207, Tryz.ntmps207
  go_wp2
  refine bodyPost_ret (results_cell_row rfl _ _ W.heap.size 244 #[.string nm, .int .i64 1, .string tx, .nilFunc, .int .i64 lo, .int .i64 hi] (0, 0) _ rfl (new_blk W _) Tryz.underlying244 rfl (by kernel_rfl)) rfl ?_
  exact ⟨rfl, _, rfl⟩
set_option maxHeartbeats 1000000 in
set_option maxRecDepth 100000 in
theorem moments (b2 eps last value : ByteArray) (W : World) : Calls Tryz.prog 206 #[.string b2, .string eps, .string last, .string value] W fun e w' => (∃ g cs, e = .returned (.slice (some ⟨g, 0, none⟩) 4 4) ∧ w'.heap[g]? = some (.cells cs 244 (0, 0)) ∧ cs.size = 24 ∧ cs.all (·.oneCell') = true) ∧ Below W.heap.size W w' := by
  go_enter Tryz.func206, Tryz.ntmps206
  go_wp2_with (first | (go_at_call 199; refine (n _ _ _ _).mono ?_; rintro e w' ⟨rfl, o1, rfl⟩; unfold arg))
  go_ret
  refine ⟨⟨_, _, rfl, new_at _ _ (by simp), ?_, ?_⟩, ?_⟩
  · rfl
  · kernel_rfl
  · repeat (first | exact Below.refl _ _ | refine Below.alloc ?_ (by simp <;> omega) _)
end Go.Proofs.YtpgodgfkbkfpcaaGreat.Tab
