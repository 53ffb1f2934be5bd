/- The pure form of FloatRoots: the root of all patterns; turned, without sign. No condition. -/
import Derived.Test.YtcegmbplgghjnaaPub
import Derived.Test.YtcegmbplgghjnaaRld
import Derived.Test.YtcegmbplgghjnaaRle
import Derived.Test.YtcegmbplgghjnaaPFx11
namespace Go.Proofs.Ytcegmbplgghjnaa.Pure
open Go.RowKit Lathe Go.Proofs.Ytcegmbplgghjnaa.PF Go.Proofs.Ytcegmbplgghjnaa.Pub Go.Proofs.Ytcegmbplgghjnaa.Rlb Go.Proofs.Ytcegmbplgghjnaa.Rlc Go.Proofs.Ytcegmbplgghjnaa.Rld Go.Proofs.Ytcegmbplgghjnaa.Rle

theorem FloatRoots : lathelaw02_FloatRoots.Pure := by
  intro a0 h0
  obtain ⟨a, rfl, ha⟩ := pat h0
  obtain ⟨k, hk⟩ : ∃ k, 300 ≤ k := ⟨300, Nat.le_refl _⟩
  refine ⟨k, ?_⟩
  unfold lathelaw02_FloatRoots.f float_Sqrt.f float_Neg.f float_Abs.f
  simp -implicitDefEqProofs only [Option.bind_some, Int.toNat_natCast]
  rw [andNot_u32 a ha, Int.toNat_natCast, n_f _ (fsqrt_lt a), n_f a ha, n_f _ (fneg_lt ha), n_f _ (tl_lt (show rg a < 4294967296 by have := rg_lt a; omega))]
  simp -implicitDefEqProofs only [Option.bind_some]
  rw [Sqrt_f k a ha (by omega), Neg_f a ha, Abs_f a ha, works_f]
  simp [fabs]
end Go.Proofs.Ytcegmbplgghjnaa.Pure
