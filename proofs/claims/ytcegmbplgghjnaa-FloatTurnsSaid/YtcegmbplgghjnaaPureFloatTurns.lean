/- The pure form of FloatTurns: arguments exchanged, signs turned, a number less itself. No condition. -/
import Derived.Test.YtcegmbplgghjnaaRlg
import Derived.Test.YtcegmbplgghjnaaPFx14
set_option linter.unusedVariables false
set_option linter.unusedSimpArgs false
namespace Go.Proofs.Ytcegmbplgghjnaa.Pure
open Go.RowKit Lathe Go.Proofs.Ytcegmbplgghjnaa.PF Go.Proofs.Ytcegmbplgghjnaa.Pub Go.Proofs.Ytcegmbplgghjnaa.Rla Go.Proofs.Ytcegmbplgghjnaa.Rlb Go.Proofs.Ytcegmbplgghjnaa.Rlc Go.Proofs.Ytcegmbplgghjnaa.Rle Go.Proofs.Ytcegmbplgghjnaa.Rlg Go.Proofs.YtcegmbplgghjnaaW.PrintWords Go.Proofs.YtcegmbplgghjnaaW.PrintMore

theorem FloatTurns : lathelaw02_FloatTurns.Pure := by
  intro a0 a1 h0 h1
  obtain ⟨a, rfl, ha⟩ := pat h0
  obtain ⟨b, rfl, hb⟩ := pat h1
  obtain ⟨k, _⟩ : ∃ k, 0 ≤ k := ⟨0, Nat.le_refl _⟩
  refine ⟨k + 1 + 1, ?_⟩
  unfold lathelaw02_FloatTurns.f
  simp -implicitDefEqProofs only [add_p, mul_p, min_p, max_p, eq_p, Option.bind_some]
  rw [Lathe.fadd_comm b a, fmul_comm b a, fmin_comm hb ha, fmax_comm hb ha, feq_comm b a, if_pos rfl, if_pos rfl, if_pos rfl, if_pos rfl, bne_self_eq_false, lathelaw02_FloatTurns.j0, if_neg (by decide)]
  simp -implicitDefEqProofs only [neg_p, mul_p, div_p, Option.bind_some]
  rw [fmul_neg ha b, fdiv_neg ha b, if_pos rfl, bne_self_eq_false, lathelaw02_FloatTurns.j1, if_neg (by decide), finite_f a ha, works_f]
  simp -implicitDefEqProofs only [Option.bind_some]
  by_cases c : rg a < 2139095040
  · rw [decide_eq_true c, if_pos rfl]
    simp -implicitDefEqProofs only [neg_p, sub_p, Option.bind_some]
    rw [fsub_self ha c, fneg_fneg ha (by omega), if_pos (by rfl), if_pos rfl]
  · rw [decide_eq_false c, if_neg (by decide)]
end Go.Proofs.Ytcegmbplgghjnaa.Pure
