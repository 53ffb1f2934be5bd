/- The reference of the complex numbers is the model's; the head of the pair statements. No condition. -/
import Derived.Test.YtcegmbplgghjnaaRlf
import Derived.Test.YtcegmbplgghjnaaPFx22
import Derived.Test.YtcegmbplgghjnaaPFx23
import Derived.Test.YtcegmbplgghjnaaPFx24
set_option linter.unusedVariables false
set_option linter.unusedSimpArgs false
namespace Go.Proofs.Ytcegmbplgghjnaa.Rlp
open Go.RowKit Lathe Go.Proofs.Ytcegmbplgghjnaa.PF Go.Proofs.Ytcegmbplgghjnaa.Ref Go.Proofs.Ytcegmbplgghjnaa.Rla Go.Proofs.Ytcegmbplgghjnaa.Rlb Go.Proofs.Ytcegmbplgghjnaa.Rlc Go.Proofs.YtcegmbplgghjnaaW.PrintWords Go.Proofs.YtcegmbplgghjnaaW.PrintMore

theorem write_lt (d : Ieee.Datum) : Ieee.single.write d < 4294967296 := Ieee.Format.write_lt Ieee.single d
theorem res_lt {o : Option Ieee.Datum} : res (o.map Ieee.single.write) < 4294967296 := by
  cases o with
  | none => show (2143289344 : Nat) < 4294967296; omega
  | some d => exact write_lt d
theorem fadd_lt (a b : Nat) : fadd a b < 4294967296 := res_lt
theorem fsub_lt (a b : Nat) : fsub a b < 4294967296 := res_lt
theorem fmul_lt (a b : Nat) : fmul a b < 4294967296 := res_lt
theorem fint_lt (n : Int) : fint n < 4294967296 := write_lt _
theorem fneg_lt {a : Nat} (h : a < 4294967296) : fneg a < 4294967296 := tl_lt (flip_lt' h)
theorem cmul_lt (z w : Nat × Nat) : (cmul z w).1 < 4294967296 ∧ (cmul z w).2 < 4294967296 := ⟨fsub_lt _ _, fadd_lt _ _⟩

theorem m32 {x : Nat} (h : x < 4294967296) : ((x : Nat) : Int) % 4294967296 = (x : Int) := by omega
theorem sub_p (k a b : Nat) (ha : a < 4294967296) (hb : b < 4294967296) (hk : 90 ≤ k) : latheref04_sub.f k a b = some ((fsub a b : Nat) : Int) := by
  unfold latheref04_sub.f
  rw [w64 (by omega) (by omega), w64 (by omega) (by omega), Sub_f k a b ha hb hk]
  simp -implicitDefEqProofs only [Option.bind_some]
  rw [m32 (fsub_lt a b)]
theorem mul_p (k a b : Nat) (ha : a < 4294967296) (hb : b < 4294967296) (hk : 90 ≤ k) : latheref04_mul.f k a b = some ((fmul a b : Nat) : Int) := by
  unfold latheref04_mul.f
  rw [w64 (by omega) (by omega), w64 (by omega) (by omega), Mul_f k a b ha hb (by omega)]
  simp -implicitDefEqProofs only [Option.bind_some]
  rw [m32 (fmul_lt a b)]
theorem add_p (k a b : Nat) (ha : a < 4294967296) (hb : b < 4294967296) (hk : 90 ≤ k) : latheref04_add.f k a b = some ((fadd a b : Nat) : Int) := by
  unfold latheref04_add.f
  rw [w64 (by omega) (by omega), w64 (by omega) (by omega), Add_f k a b ha hb hk]
  simp -implicitDefEqProofs only [Option.bind_some]
  rw [m32 (fadd_lt a b)]
theorem Mul_p (k a b c d : Nat) (ha : a < 4294967296) (hb : b < 4294967296) (hc : c < 4294967296) (hd : d < 4294967296) (hk : 90 ≤ k) :
    latheref04_Mul.f k a b c d = some ((((cmul (a, b) (c, d)).1 : Nat) : Int), (((cmul (a, b) (c, d)).2 : Nat) : Int)) := by
  unfold latheref04_Mul.f
  rw [mul_p k a c ha hc hk, mul_p k b d hb hd hk, mul_p k a d ha hd hk, mul_p k b c hb hc hk]
  simp -implicitDefEqProofs only [Option.bind_some]
  rw [sub_p k _ _ (fmul_lt _ _) (fmul_lt _ _) hk, add_p k _ _ (fmul_lt _ _) (fmul_lt _ _) hk]
  rfl
theorem Square_p (k a b : Nat) (ha : a < 4294967296) (hb : b < 4294967296) (hk : 90 ≤ k) : latheref04_Square.f k a b = some ((fadd (fmul a a) (fmul b b) : Nat) : Int) := by
  unfold latheref04_Square.f
  rw [mul_p k a a ha ha hk, mul_p k b b hb hb hk]
  simp -implicitDefEqProofs only [Option.bind_some]
  rw [add_p k _ _ (fmul_lt _ _) (fmul_lt _ _) hk]
  simp -implicitDefEqProofs only [Option.bind_some]
  have := fadd_lt (fmul a a) (fmul b b)
  rw [w64 (by omega) (by omega)]
theorem works_f : lathelaw04_works.f = some true := by
  unfold lathelaw04_works.f pair_Mul.f pair_Square.f pair_Add.f
  simp -implicitDefEqProofs only [Option.bind_some]
  have h1 : (((cmul ((1065353216 : Int).toNat, (1073741824 : Int).toNat) ((1077936128 : Int).toNat, (1082130432 : Int).toNat)).1 : Nat) : Int) = 3231711232 := by decide +kernel
  have h2 : (((cmul ((1065353216 : Int).toNat, (1073741824 : Int).toNat) ((1077936128 : Int).toNat, (1082130432 : Int).toNat)).2 : Nat) : Int) = 1092616192 := by decide +kernel
  have h3 : ((fadd (fmul (1077936128 : Int).toNat (1077936128 : Int).toNat) (fmul (1082130432 : Int).toNat (1082130432 : Int).toNat) : Nat) : Int) = 1103626240 := by decide +kernel
  have h4 : ((fadd (1065353216 : Int).toNat (1077936128 : Int).toNat : Nat) : Int) = 1082130432 := by decide +kernel
  have h5 : ((fadd (1073741824 : Int).toNat (1082130432 : Int).toNat : Nat) : Int) = 1086324736 := by decide +kernel
  rw [h1, h2, h3, h4, h5]
  rfl
/-- A pattern, out of its row's fact. -/
theorem pat {a : Int} (h : (Lit.int .u32 a).wf = true) : ∃ n : Nat, a = n ∧ n < 4294967296 := by
  simp [Lit.wf, IntKind.min, IntKind.max, IntKind.signed, IntKind.bits] at h
  exact ⟨a.toNat, by omega, by omega⟩
theorem whole {a : Int} (h : (Lit.int .i64 a).wf = true) : -9223372036854775808 ≤ a ∧ a ≤ 9223372036854775807 := by
  simp [Lit.wf, IntKind.min, IntKind.max, IntKind.signed, IntKind.bits] at h
  omega
end Go.Proofs.Ytcegmbplgghjnaa.Rlp
