/- The functions of the program that a statement reaches, as plain functions, and that the machine's calls do what these say. No condition. (Printed by a program.) -/
import Derived.Test.YtmfladkimmnccaaPGx0
namespace Go.Proofs.Ytmfladkimmnccaa.PG
open Go.RowKit Go.Proofs.YtmfladkimmnccaaW.PrintWords Go.Proofs.YtmfladkimmnccaaW.PrintLast Go.Proofs.YtmfladkimmnccaaW.PrintMore
attribute [local go_sem] max2_int min2_int max_two min_two max_three min_three max_four min_four   -- for this text's walks alone
set_option linter.unusedVariables false
set_option linter.unusedSimpArgs false

/-! ### latheref02_up: function 125 (given) -/
def latheref02_up.f (a0_0 : Bool) (a0_1 : Int) (a0_2 : Int) (a0_3 : Bool) (a0_4 : Bool) : Option (Bool × Int × Int × Bool × Bool) := if 1 ≤ a0_1 ∧ a0_1 < 16777216 ∧ -100000 ≤ a0_2 ∧ a0_2 ≤ 100000 then some (a0_0, a0_1 * 2 ^ (23 - a0_1.toNat.log2), a0_2 - ((23 - a0_1.toNat.log2 : Nat) : Int), a0_3, a0_4) else none
theorem latheref02_up.calls (a0_0 : Bool) (a0_1 : Int) (a0_2 : Int) (a0_3 : Bool) (a0_4 : Bool) (r1 : Bool) (r2 : Int) (r3 : Int) (r4 : Bool) (r5 : Bool) (w : World) (h : latheref02_up.f a0_0 a0_1 a0_2 a0_3 a0_4 = some (r1, r2, r3, r4, r5)) :
    Calls Try.prog 125 #[.agg #[.bool a0_0, .int .u64 a0_1, .int .i64 a0_2, .bool a0_3, .bool a0_4]] w fun e w' => e = .returned (.agg #[.bool r1, .int .u64 r2, .int .i64 r3, .bool r4, .bool r5]) ∧ Below w.heap.size w w' := by
  unfold latheref02_up.f at h
  split at h
  case isFalse => cases h
  rename_i g
  have h := Option.some.inj h
  simp only [Prod.mk.injEq] at h
  obtain ⟨rfl, rfl, rfl, rfl, rfl⟩ := h
  exact Reg.up_given a0_0 a0_1 a0_2 a0_3 a0_4 w g.1 g.2.1 g.2.2.1 g.2.2.2


end Go.Proofs.Ytmfladkimmnccaa.PG
