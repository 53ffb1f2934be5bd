/- The pure form of FloatDivs: the quotient of all patterns. No condition. -/
import Derived.Test.YtcegmbplgghjnaaPub
import Derived.Test.YtcegmbplgghjnaaRld
import Derived.Test.YtcegmbplgghjnaaPFx9
namespace Go.Proofs.Ytcegmbplgghjnaa.Pure
open Go.RowKit Lathe Go.Proofs.Ytcegmbplgghjnaa.PF Go.Proofs.Ytcegmbplgghjnaa.Pub Go.Proofs.Ytcegmbplgghjnaa.Rlb Go.Proofs.Ytcegmbplgghjnaa.Rlc Go.Proofs.Ytcegmbplgghjnaa.Rld

theorem FloatDivs : lathelaw02_FloatDivs.Pure := by
  intro a0 a1 h0 h1
  obtain ⟨a, rfl, ha⟩ := pat h0
  obtain ⟨b, rfl, hb⟩ := pat h1
  obtain ⟨k, hk⟩ : ∃ k, 300 ≤ k := ⟨300, Nat.le_refl _⟩
  refine ⟨k, ?_⟩
  unfold lathelaw02_FloatDivs.f float_Div.f
  simp -implicitDefEqProofs only [Option.bind_some, Int.toNat_natCast]
  rw [n_f _ (fdiv_lt a b), n_f a ha, n_f b hb]
  simp -implicitDefEqProofs only [Option.bind_some]
  rw [Div_f k a b ha hb (by omega), works_f]
  simp
end Go.Proofs.Ytcegmbplgghjnaa.Pure
