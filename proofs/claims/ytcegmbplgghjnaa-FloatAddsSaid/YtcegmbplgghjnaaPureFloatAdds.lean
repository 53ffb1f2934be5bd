/- The pure form of FloatAdds: the sum and the difference of all patterns. No condition. -/
import Derived.Test.YtcegmbplgghjnaaPub
import Derived.Test.YtcegmbplgghjnaaPFx7
namespace Go.Proofs.Ytcegmbplgghjnaa.Pure
open Go.RowKit Lathe Go.Proofs.Ytcegmbplgghjnaa.PF Go.Proofs.Ytcegmbplgghjnaa.Pub Go.Proofs.Ytcegmbplgghjnaa.Rlb Go.Proofs.Ytcegmbplgghjnaa.Rlc

theorem FloatAdds : lathelaw02_FloatAdds.Pure := by
  intro a0 a1 h0 h1
  obtain ⟨a, rfl, ha⟩ := pat h0
  obtain ⟨b, rfl, hb⟩ := pat h1
  obtain ⟨k, hk⟩ : ∃ k, 300 ≤ k := ⟨300, Nat.le_refl _⟩
  refine ⟨k, ?_⟩
  unfold lathelaw02_FloatAdds.f float_Add.f float_Sub.f
  simp -implicitDefEqProofs only [Option.bind_some, Int.toNat_natCast]
  rw [n_f _ (fadd_lt a b), n_f _ (fsub_lt a b), n_f a ha, n_f b hb]
  simp -implicitDefEqProofs only [Option.bind_some]
  rw [Add_f k a b ha hb (by omega), Sub_f k a b ha hb (by omega), works_f]
  simp
end Go.Proofs.Ytcegmbplgghjnaa.Pure
