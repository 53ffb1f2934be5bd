/- A pattern's digits and their place, as the float statements take them; how near an answer lies. No condition. -/
import Derived.Test.YtcegmbplgghjnaaRle
import Derived.Test.YtcegmbplgghjnaaPub
import Derived.Test.YtcegmbplgghjnaaFpe
import Derived.Test.YtcegmbplgghjnaaPFx11
import Derived.Test.YtcegmbplgghjnaaPFx2
import Derived.Test.YtcegmbplgghjnaaPFx4
import Derived.Test.YtcegmbplgghjnaaPFx7
set_option linter.unusedVariables false
set_option linter.unusedSimpArgs false
namespace Go.Proofs.Ytcegmbplgghjnaa.Rlg
open Go.RowKit Lathe Go.Proofs.Ytcegmbplgghjnaa.PF Go.Proofs.Ytcegmbplgghjnaa.Ref Go.Proofs.Ytcegmbplgghjnaa.Rla Go.Proofs.Ytcegmbplgghjnaa.Rlb Go.Proofs.Ytcegmbplgghjnaa.Rlc Go.Proofs.Ytcegmbplgghjnaa.Rle Go.Proofs.Ytcegmbplgghjnaa.Pub Go.Proofs.YtcegmbplgghjnaaW.PrintWords Go.Proofs.YtcegmbplgghjnaaW.PrintMore

theorem add_p (a b : Nat) : float_Add.f a b = some ((fadd a b : Nat) : Int) := by unfold float_Add.f; simp only [Int.toNat_natCast]
theorem sub_p (a b : Nat) : float_Sub.f a b = some ((fsub a b : Nat) : Int) := by unfold float_Sub.f; simp only [Int.toNat_natCast]
theorem mul_p (a b : Nat) : float_Mul.f a b = some ((fmul a b : Nat) : Int) := by unfold float_Mul.f; simp only [Int.toNat_natCast]
theorem div_p (a b : Nat) : float_Div.f a b = some ((fdiv a b : Nat) : Int) := by unfold float_Div.f; simp only [Int.toNat_natCast]
theorem min_p (a b : Nat) : float_Min.f a b = some ((fmin a b : Nat) : Int) := by unfold float_Min.f; simp only [Int.toNat_natCast]
theorem max_p (a b : Nat) : float_Max.f a b = some ((fmax a b : Nat) : Int) := by unfold float_Max.f; simp only [Int.toNat_natCast]
theorem eq_p (a b : Nat) : float_Equal.f a b = some (feq a b) := by unfold float_Equal.f; simp only [Int.toNat_natCast]
theorem less_p (a b : Nat) : float_Less.f a b = some (flt a b) := by unfold float_Less.f; simp only [Int.toNat_natCast]
theorem neg_p (a : Nat) : float_Neg.f a = some ((fneg a : Nat) : Int) := by unfold float_Neg.f; simp only [Int.toNat_natCast]
theorem sqrt_p (a : Nat) : float_Sqrt.f a = some ((fsqrt a : Nat) : Int) := by unfold float_Sqrt.f; simp only [Int.toNat_natCast]
theorem abs_p (a : Nat) (h : a < 4294967296) : float_Abs.f a = some ((fabs a : Nat) : Int) := by unfold float_Abs.f fabs; rw [andNot_u32 a h, Int.toNat_natCast]
theorem neg_lt {a : Nat} (h : a < 4294967296) : fneg a < 4294967296 := tl_lt (flip_lt' h)
theorem abs_lt {a : Nat} : fabs a < 4294967296 := tl_lt (show rg a < 4294967296 by have := rg_lt a; omega)
end Go.Proofs.Ytcegmbplgghjnaa.Rlg
