/- The pure form of FloatOrders: which is the lesser, the greater; below, equal, finite; picked. No condition. -/
import Derived.Test.YtcegmbplgghjnaaPub
import Derived.Test.YtcegmbplgghjnaaRle
import Derived.Test.YtcegmbplgghjnaaPFx13
namespace Go.Proofs.Ytcegmbplgghjnaa.Pure
open Go.RowKit Lathe Go.Proofs.Ytcegmbplgghjnaa.PF Go.Proofs.Ytcegmbplgghjnaa.Pub Go.Proofs.Ytcegmbplgghjnaa.Rlb Go.Proofs.Ytcegmbplgghjnaa.Rlc Go.Proofs.Ytcegmbplgghjnaa.Rle

theorem FloatOrders : lathelaw02_FloatOrders.Pure := by
  intro a0 a1 a2 h0 h1 h2
  obtain ⟨a, rfl, ha⟩ := pat h0
  obtain ⟨b, rfl, hb⟩ := pat h1
  obtain ⟨c, rfl, hc⟩ := pat h2
  obtain ⟨k, hk⟩ : ∃ k, 300 ≤ k := ⟨300, Nat.le_refl _⟩
  refine ⟨k + 1, ?_⟩
  unfold lathelaw02_FloatOrders.f float_Min.f float_Max.f float_Less.f
  simp -implicitDefEqProofs only [Option.bind_some, Int.toNat_natCast]
  rw [n_f _ (fmin_lt ha hb), n_f _ (fmax_lt ha hb), n_f a ha, n_f b hb]
  simp -implicitDefEqProofs only [Option.bind_some]
  rw [Min_f a b ha hb, Max_f a b ha hb, Less_f (k + 1) a b ha hb (by omega)]
  simp -implicitDefEqProofs only [Option.bind_some, if_true, bne_self_eq_false]
  rw [lathelaw02_FloatOrders.j0]
  unfold float_Equal.f float_Select.f
  simp -implicitDefEqProofs only [Option.bind_some, Int.toNat_natCast, Bool.false_eq_true, if_false]
  rw [n_f _ (fsel_lt c ha hb), n_f a ha, n_f b hb, n_f c hc]
  simp -implicitDefEqProofs only [Option.bind_some]
  rw [Equal_f a b ha hb, Finite_f a ha, Select_f k c a b hc ha hb (by omega), finite_f a ha, works_f]
  simp
end Go.Proofs.Ytcegmbplgghjnaa.Pure
