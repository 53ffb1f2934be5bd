/- Small functions of packages check and sign at the two typed programs that law MealyJumps makes. No condition. -/
import Derived.Test.YtpgodgfkbkfpcaaGreatTab
import Derived.Carry
import Derived.WideLaws
set_option linter.unusedVariables false
set_option linter.unusedSimpArgs false
namespace Go.Proofs.YtpgodgfkbkfpcaaGreat.Mea
open Go.RowKit
/-- No schedule. -/
def sch0 : Value := .agg #[.int .i64 0, .slice none 0 0, .slice none 0 0, .slice none 0 0]
set_option maxHeartbeats 400000 in
set_option maxRecDepth 100000 in
theorem empty (W : World) : Calls Tryz.prog 130 #[sch0] W fun e w' => e = .returned (.bool true) ∧ Below W.heap.size W w' := by
  unfold sch0
  go_enter Tryz.func130, Tryz.ntmps130
  go_wp2
  go_ret
  exact ⟨rfl, (Below.refl _ _).alloc (Nat.le_refl _) _⟩
/-- A typed program without kids, masks, schedule. -/
def tx (op : Int) (nums ints : Value) : Value := .agg #[.int .i64 op, nums, ints, .slice none 0 0, .int .i64 0, .slice none 0 0, .slice none 0 0, .slice none 0 0, .slice none 0 0]
set_option maxHeartbeats 400000 in
set_option maxRecDepth 100000 in
theorem sizes (op : Int) (an ai : Option Addr) (ln li cn ci : Nat) (W : World) : Calls Tryz.prog 77 #[tx op (.slice an ln cn) (.slice ai li ci)] W fun e w' => e = .returned (.tuple #[.int .i64 1, .int .i64 1]) ∧ Below W.heap.size W w' := by
  unfold tx
  go_enter Tryz.func77, Tryz.ntmps77
  go_wp2_with (go_at_call 130; refine (empty _).mono ?_; rintro e w1 ⟨rfl, hb⟩; have m8 : w1.cell? ⟨W.heap.size, 8, none⟩ = some (.slice none 0 0) := (hb.cell (p := ⟨W.heap.size, 8, none⟩) (by simp)).trans (by go_simp))
  refine wp_loop_rounds 1 ?_
  rw [rounds_succ]
  go_wp2
  go_ret2
  exact ⟨rfl, Tab.then_ ((Below.refl _ _).alloc (Nat.le_refl _) _) (by simp) hb⟩
set_option maxHeartbeats 400000 in
set_option maxRecDepth 100000 in
theorem all0 (W : World) : Calls Tryz.prog 78 #[.slice none 0 0] W fun e w' => e = .returned (.slice none 0 0) ∧ Below W.heap.size W w' := by
  go_enter Tryz.func78, Tryz.ntmps78
  go_wp2
  refine wp_loop_rounds 1 ?_
  rw [rounds_succ]
  go_wp2
  go_ret
  exact ⟨rfl, Below.refl _ _⟩
set_option maxHeartbeats 400000 in
set_option maxRecDepth 100000 in
theorem total0 (W : World) : Calls Tryz.prog 129 #[.slice none 0 0] W fun e w' => e = .returned (.int .i64 0) ∧ Below W.heap.size W w' := by
  go_enter Tryz.func129, Tryz.ntmps129
  go_wp2
  refine wp_loop_rounds 1 ?_
  rw [rounds_succ]
  go_wp2
  go_ret
  exact ⟨rfl, Below.refl _ _⟩
set_option maxHeartbeats 400000 in
set_option maxRecDepth 100000 in
theorem check0 (W : World) : Calls Tryz.prog 76 #[.slice none 0 0] W fun e w' => e = .returned (.int .i64 0) ∧ Below W.heap.size W w' := by
  have hmm := @run_makeMap Tryz.prog
  have hlen : (Builtin.len_ #[203] 3 #[.map (some W.heap.size)]).run Tryz.prog (W.alloc (.map #[] 0)) = .ok (.int .i64 0) (W.alloc (.map #[] 0)) := by
    have h := run_len_map (P := Tryz.prog) (w := W.alloc (.map #[] 0)) 203 3 W.heap.size #[] 0 (by kernel_rfl) (Tab.new_blk W _)
    exact h
  have ht := total0 (W.alloc (.map #[] 0))
  go_enter Tryz.func76, Tryz.ntmps76
  go_wp2
  refine wp_loop_rounds 1 ?_
  rw [rounds_succ]
  go_wp2_with (go_at_call 129; refine ht.mono ?_; rintro e w1 ⟨rfl, hb⟩)
  go_ret
  exact ⟨rfl, Tab.then_ ((Below.refl _ _).alloc (Nat.le_refl _) _) (by simp) hb⟩
/-- What a transform works on: no parameters. -/
def view0 : Value := .agg #[.slice none 0 0, .slice none 0 0, .bool false]
set_option maxHeartbeats 400000 in
set_option maxRecDepth 100000 in
theorem sees0 (W : World) : Calls Tryz.prog 133 #[view0] W fun e w' => e = .returned (.bool false) ∧ Below W.heap.size W w' := by
  unfold view0
  go_enter Tryz.func133, Tryz.ntmps133
  go_wp2
  refine wp_loop_rounds 1 ?_
  rw [rounds_succ]
  go_wp2
  go_ret
  exact ⟨rfl, (Below.refl _ _).alloc (Nat.le_refl _) _⟩
set_option maxHeartbeats 400000 in
set_option maxRecDepth 100000 in
theorem fits0 (W : World) : Calls Tryz.prog 41 #[.slice none 0 0, .slice none 0 0] W fun e w' => e = .returned (.bool true) ∧ Below W.heap.size W w' := by
  go_enter Tryz.func41, Tryz.ntmps41
  go_wp2
  refine wp_loop_rounds 1 ?_
  rw [rounds_succ]
  go_wp2
  go_ret
  exact ⟨rfl, Below.refl _ _⟩
end Go.Proofs.YtpgodgfkbkfpcaaGreat.Mea
