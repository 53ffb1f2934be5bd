/- The pure form of FloatMuls: the product of all patterns. No condition. -/
import Derived.Test.YtcegmbplgghjnaaPub
import Derived.Test.YtcegmbplgghjnaaPFx13
namespace Go.Proofs.Ytcegmbplgghjnaa.Pure
open Go.RowKit Lathe Go.Proofs.Ytcegmbplgghjnaa.PF Go.Proofs.Ytcegmbplgghjnaa.Pub Go.Proofs.Ytcegmbplgghjnaa.Rlb Go.Proofs.Ytcegmbplgghjnaa.Rlc

theorem FloatMuls : lathelaw02_FloatMuls.Pure := by
  intro a0 a1 h0 h1
  obtain ⟨a, rfl, ha⟩ := pat h0
  obtain ⟨b, rfl, hb⟩ := pat h1
  obtain ⟨k, hk⟩ : ∃ k, 300 ≤ k := ⟨300, Nat.le_refl _⟩
  refine ⟨k, ?_⟩
  unfold lathelaw02_FloatMuls.f float_Mul.f
  simp -implicitDefEqProofs only [Option.bind_some, Int.toNat_natCast]
  rw [n_f _ (fmul_lt a b), n_f a ha, n_f b hb]
  simp -implicitDefEqProofs only [Option.bind_some]
  rw [Mul_f k a b ha hb (by omega), works_f]
  simp
end Go.Proofs.Ytcegmbplgghjnaa.Pure
