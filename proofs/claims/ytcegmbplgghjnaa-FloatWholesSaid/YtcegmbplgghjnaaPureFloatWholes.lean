/- The pure form of FloatWholes: whole numbers, powers. No condition. -/
import Derived.Test.YtcegmbplgghjnaaPub
import Derived.Test.YtcegmbplgghjnaaRlf
import Derived.Test.YtcegmbplgghjnaaPFx14
namespace Go.Proofs.Ytcegmbplgghjnaa.Pure
open Go.RowKit Lathe Go.Proofs.Ytcegmbplgghjnaa.PF Go.Proofs.Ytcegmbplgghjnaa.Pub Go.Proofs.Ytcegmbplgghjnaa.Rlb Go.Proofs.Ytcegmbplgghjnaa.Rlc
open Go.Proofs.Ytcegmbplgghjnaa.Rlf (fpow_lt Power_f)

theorem FloatWholes : lathelaw02_FloatWholes.Pure := by
  intro a0 n h0 h1
  obtain ⟨a, rfl, ha⟩ := pat h0
  obtain ⟨n0, n1⟩ := whole h1
  obtain ⟨k, hk⟩ : ∃ k, 300 ≤ k := ⟨300, Nat.le_refl _⟩
  refine ⟨k, ?_⟩
  unfold lathelaw02_FloatWholes.f float_FromInt.f float_Power.f
  rw [if_pos ⟨Int.natCast_nonneg _, n1⟩, fint_num]
  simp -implicitDefEqProofs only [Option.bind_some, Int.toNat_natCast]
  rw [n_f _ (fint_lt n), n_f a ha, n_f _ (fpow_lt a n ha)]
  simp -implicitDefEqProofs only [Option.bind_some]
  rw [FromInt_f k n n0 n1 (by omega), Power_f k a n ha n1 (by omega), works_f]
  simp
end Go.Proofs.Ytcegmbplgghjnaa.Pure
