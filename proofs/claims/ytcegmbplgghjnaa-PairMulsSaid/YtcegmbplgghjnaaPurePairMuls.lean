/- The pure form of PairMuls: products and squares. No condition. -/
import Derived.Test.YtcegmbplgghjnaaRlp
import Derived.Test.YtcegmbplgghjnaaPFx25
set_option linter.unusedVariables false
set_option linter.unusedSimpArgs false
namespace Go.Proofs.Ytcegmbplgghjnaa.Pure
open Go.RowKit Lathe Go.Proofs.Ytcegmbplgghjnaa.PF Go.Proofs.Ytcegmbplgghjnaa.Rla Go.Proofs.Ytcegmbplgghjnaa.Rlp Go.Proofs.YtcegmbplgghjnaaW.PrintWords Go.Proofs.YtcegmbplgghjnaaW.PrintMore

theorem PairMuls (a0 a1 b0 b1 : Int) (h0 : (Lit.int .u32 a0).wf = true) (h1 : (Lit.int .u32 a1).wf = true) (h2 : (Lit.int .u32 b0).wf = true) (h3 : (Lit.int .u32 b1).wf = true) :
    ∃ k, lathelaw04_PairMuls.f k a0 a1 b0 b1 = some true := by
  obtain ⟨a, rfl, ha⟩ := pat h0
  obtain ⟨b, rfl, hb⟩ := pat h1
  obtain ⟨c, rfl, hc⟩ := pat h2
  obtain ⟨d, rfl, hd⟩ := pat h3
  obtain ⟨k, hk⟩ : ∃ k, 300 ≤ k := ⟨300, Nat.le_refl _⟩
  refine ⟨k, ?_⟩
  unfold lathelaw04_PairMuls.f pair_Mul.f pair_Square.f
  simp -implicitDefEqProofs only [Option.bind_some, Int.toNat_natCast]
  rw [Mul_p k a b c d ha hb hc hd (by omega), Square_p k a b ha hb (by omega), works_f]
  simp -implicitDefEqProofs only [Option.bind_some, beq_self_eq_true, Bool.and_self, if_true]
  have := fadd_lt (fmul a a) (fmul b b)
  rw [w64 (by omega) (by omega), if_pos rfl]
end Go.Proofs.Ytcegmbplgghjnaa.Pure
