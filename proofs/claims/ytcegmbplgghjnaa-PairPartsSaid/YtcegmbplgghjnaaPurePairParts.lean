/- The pure form of PairParts: what is done part by part. No condition. -/
import Derived.Test.YtcegmbplgghjnaaRlp
import Derived.Test.YtcegmbplgghjnaaPFx26
import Derived.Test.YtcegmbplgghjnaaPFx27
import Derived.Test.YtcegmbplgghjnaaPFx28
import Derived.Test.YtcegmbplgghjnaaPFx29
set_option linter.unusedVariables false
set_option linter.unusedSimpArgs false
namespace Go.Proofs.Ytcegmbplgghjnaa.Pure
open Go.RowKit Lathe Go.Proofs.Ytcegmbplgghjnaa.PF Go.Proofs.Ytcegmbplgghjnaa.Rla Go.Proofs.Ytcegmbplgghjnaa.Rlp Go.Proofs.YtcegmbplgghjnaaW.PrintWords Go.Proofs.YtcegmbplgghjnaaW.PrintMore
open Go.Proofs.Ytcegmbplgghjnaa.Rlc (Neg_f Canon_f tl_lt)

theorem neg_p (a : Nat) (ha : a < 4294967296) : latheref04_neg.f a = some ((fneg a : Nat) : Int) := by
  unfold latheref04_neg.f
  rw [w64 (by omega) (by omega), Neg_f a ha]
  simp -implicitDefEqProofs only [Option.bind_some]
  rw [m32 (fneg_lt ha)]
theorem canon_p (a : Nat) (ha : a < 4294967296) : latheref04_canon.f a = some ((tl a : Nat) : Int) := by
  unfold latheref04_canon.f
  rw [w64 (by omega) (by omega), Canon_f a ha]
  simp -implicitDefEqProofs only [Option.bind_some]
  rw [m32 (tl_lt ha)]
theorem PairParts (a0 a1 b0 b1 f0 : Int) (h0 : (Lit.int .u32 a0).wf = true) (h1 : (Lit.int .u32 a1).wf = true) (h2 : (Lit.int .u32 b0).wf = true) (h3 : (Lit.int .u32 b1).wf = true) (h4 : (Lit.int .u32 f0).wf = true) :
    ∃ k, lathelaw04_PairParts.f k a0 a1 b0 b1 f0 = some true := by
  obtain ⟨a, rfl, ha⟩ := pat h0
  obtain ⟨b, rfl, hb⟩ := pat h1
  obtain ⟨c, rfl, hc⟩ := pat h2
  obtain ⟨d, rfl, hd⟩ := pat h3
  obtain ⟨f, rfl, hf⟩ := pat h4
  obtain ⟨k, hk⟩ : ∃ k, 300 ≤ k := ⟨300, Nat.le_refl _⟩
  refine ⟨k, ?_⟩
  have hk : 90 ≤ k := by omega
  unfold lathelaw04_PairParts.f pair_Add.f pair_Sub.f pair_Neg.f pair_Conj.f pair_Scale.f latheref04_Add.f latheref04_Sub.f latheref04_Neg.f latheref04_Conj.f latheref04_Scale.f
  simp -implicitDefEqProofs only [Option.bind_some, Int.toNat_natCast]
  rw [Rlp.add_p k a c ha hc hk, Rlp.add_p k b d hb hd hk, Rlp.sub_p k a c ha hc hk, Rlp.sub_p k b d hb hd hk, neg_p a ha, neg_p b hb, canon_p a ha, Rlp.mul_p k a f ha hf hk, Rlp.mul_p k b f hb hf hk, works_f]
  simp -implicitDefEqProofs only [Option.bind_some, beq_self_eq_true, Bool.and_self, if_true]
end Go.Proofs.Ytcegmbplgghjnaa.Pure
