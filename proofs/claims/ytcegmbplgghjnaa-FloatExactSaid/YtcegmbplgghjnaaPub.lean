/- What all the float statements need: that their head answers true, and that answers are patterns. No condition. -/
import Derived.Test.YtcegmbplgghjnaaRlc
import Derived.Test.YtcegmbplgghjnaaPFx2
import Derived.Test.YtcegmbplgghjnaaPFx4
namespace Go.Proofs.Ytcegmbplgghjnaa.Pub
open Go.RowKit Lathe Go.Proofs.Ytcegmbplgghjnaa.PF Go.Proofs.Ytcegmbplgghjnaa.Ref Go.Proofs.Ytcegmbplgghjnaa.Rla Go.Proofs.Ytcegmbplgghjnaa.Rlb Go.Proofs.Ytcegmbplgghjnaa.Rlc Go.Proofs.YtcegmbplgghjnaaW.PrintWords Go.Proofs.YtcegmbplgghjnaaW.PrintMore

theorem n_f (x : Nat) (h : x < 4294967296) : lathelaw02_n.f (x : Int) = some (x : Int) := by
  unfold lathelaw02_n.f
  rw [w64 (by omega) (by omega)]
theorem write_lt (d : Ieee.Datum) : Ieee.single.write d < 4294967296 := Ieee.Format.write_lt Ieee.single d
theorem res_lt {o : Option Ieee.Datum} : res (o.map Ieee.single.write) < 4294967296 := by
  cases o with
  | none => show (2143289344 : Nat) < 4294967296; omega
  | some d => exact write_lt d
theorem fadd_lt (a b : Nat) : fadd a b < 4294967296 := res_lt
theorem fsub_lt (a b : Nat) : fsub a b < 4294967296 := res_lt
theorem fmul_lt (a b : Nat) : fmul a b < 4294967296 := res_lt
theorem fdiv_lt (a b : Nat) : fdiv a b < 4294967296 := res_lt
theorem fsqrt_lt (a : Nat) : fsqrt a < 4294967296 := res_lt
theorem fint_lt (n : Int) : fint n < 4294967296 := write_lt _

theorem works_f : lathelaw02_works.f = some true := by
  unfold lathelaw02_works.f float_Add.f float_Mul.f float_Div.f float_Sqrt.f float_FromInt.f float_Less.f
  simp only [Option.bind_some]
  have h1 : ((fadd (1065353216 : Int).toNat (864026624 : Int).toNat : Nat) : Int) = 1065353216 := by decide +kernel
  have h2 : ((fmul (1073741824 : Int).toNat (1077936128 : Int).toNat : Nat) : Int) = 1086324736 := by decide +kernel
  have h3 : ((fdiv (1065353216 : Int).toNat (1077936128 : Int).toNat : Nat) : Int) = 1051372203 := by decide +kernel
  have h4 : ((fsqrt (1073741824 : Int).toNat : Nat) : Int) = 1068827891 := by decide +kernel
  have h5 : ((tl (fint 16777217) : Nat) : Int) = 1266679808 := by decide +kernel
  have h6 : flt (0 : Int).toNat (1065353216 : Int).toNat = true := by decide +kernel
  rw [h1, if_pos rfl, h2, if_pos rfl, h3, if_pos rfl, h4, if_pos rfl, h5, if_pos rfl, h6]

/-- A pattern, out of its row's fact. -/
theorem pat {a : Int} (h : (Lit.int .u32 a).wf = true) : ∃ n : Nat, a = n ∧ n < 4294967296 := by
  simp [Lit.wf, IntKind.min, IntKind.max, IntKind.signed, IntKind.bits] at h
  exact ⟨a.toNat, by omega, by omega⟩
theorem whole {a : Int} (h : (Lit.int .i64 a).wf = true) : -9223372036854775808 ≤ a ∧ a ≤ 9223372036854775807 := by
  simp [Lit.wf, IntKind.min, IntKind.max, IntKind.signed, IntKind.bits] at h
  omega
end Go.Proofs.Ytcegmbplgghjnaa.Pub
