/- The pure form of FloatKeeps: sums, products by what is above 0, roots keep the order. No condition. -/
import Derived.Test.YtcegmbplgghjnaaRlg
import Derived.Test.YtcegmbplgghjnaaPFx15
set_option linter.unusedVariables false
set_option linter.unusedSimpArgs false
namespace Go.Proofs.Ytcegmbplgghjnaa.Pure
open Go.RowKit Lathe Go.Proofs.Ytcegmbplgghjnaa.PF Go.Proofs.Ytcegmbplgghjnaa.Pub Go.Proofs.Ytcegmbplgghjnaa.Rla Go.Proofs.Ytcegmbplgghjnaa.Rlb Go.Proofs.Ytcegmbplgghjnaa.Rlc Go.Proofs.Ytcegmbplgghjnaa.Rle Go.Proofs.Ytcegmbplgghjnaa.Rlg Go.Proofs.YtcegmbplgghjnaaW.PrintWords Go.Proofs.YtcegmbplgghjnaaW.PrintMore

theorem nan_p (a : Nat) : lathelaw02_nan.f a = some (decide (2139095040 < rg a)) := by
  unfold lathelaw02_nan.f
  rw [eq_p]
  simp -implicitDefEqProofs only [Option.bind_some]
  congr 1
  by_cases h : 2139095040 < rg a
  · rw [feq_nan (.inl h), decide_eq_true h]; rfl
  · rw [feq_num (by omega) (by omega), decide_eq_false h]; simp
theorem least_p {a b : Nat} (ha : rg a ≤ 2139095040) (hb : rg b ≤ 2139095040) (h : W a ≤ W b) : lathelaw02_least.f a b = some true := by
  unfold lathelaw02_least.f
  rw [less_p, eq_p, flt_num ha hb, feq_num ha hb]
  simp -implicitDefEqProofs only [Option.bind_some]
  by_cases c : W a < W b
  · rw [decide_eq_true c, if_pos rfl]
  · rw [decide_eq_false c, if_neg (by decide), decide_eq_true (show W a = W b by omega)]
/-- Two answers of which none is NaN are in order: what the statement asks three times. -/
theorem j3_p {a b : Nat} (ha : rg a ≤ 2139095040) (hb : rg b ≤ 2139095040) (hl : W a ≤ W b) (k : Nat) : lathelaw02_FloatKeeps.j3 (k + 1) a b false = some true := by
  rw [lathelaw02_FloatKeeps.j3, if_neg (by decide), sqrt_p, sqrt_p]
  simp -implicitDefEqProofs only [nan_p, works_f, Option.bind_some]
  by_cases c : 2139095040 < rg (fsqrt a)
  · rw [decide_eq_true c, if_pos rfl]
  · rw [decide_eq_false c, if_neg (by decide)]
    by_cases d : 2139095040 < rg (fsqrt b)
    · rw [decide_eq_true d, if_pos rfl]
    · rw [decide_eq_false d, if_neg (by decide), least_p (by omega) (by omega) (fsqrt_keeps ha hb hl (by omega) (by omega))]
      simp -implicitDefEqProofs only [Option.bind_some, if_true]
theorem j2_p {a b c : Nat} (ha : rg a ≤ 2139095040) (hb : rg b ≤ 2139095040) (hl : W a ≤ W b) (hc : c < 4294967296) (k : Nat) : lathelaw02_FloatKeeps.j2 (k + 1 + 1) a b c false = some true := by
  rw [lathelaw02_FloatKeeps.j2, if_neg (by decide), abs_p c hc]
  have e0 : ((0 : Nat) : Int) = 0 := rfl
  simp -implicitDefEqProofs only [mul_p, Option.bind_some, ← e0]
  rw [less_p]
  simp -implicitDefEqProofs only [nan_p, Option.bind_some]
  cases hz : flt 0 (fabs c)
  · rw [if_neg (by decide)]
    exact j3_p ha hb hl k
  · rw [if_pos rfl]
    have hr := rg_lt c
    have h0 : rg 0 ≤ 2139095040 := by decide
    have w0 : W 0 = 0 := by decide
    have hn : rg (fabs c) ≤ 2139095040 := by
      rcases Nat.lt_or_ge 2139095040 (rg (fabs c)) with d | d
      · rw [flt_nan (.inr d)] at hz; cases hz
      · exact d
    rw [flt_num h0 hn, decide_eq_true_eq, w0] at hz
    have hs : sg (fabs c) = false := by
      cases h : sg (fabs c)
      · rfl
      · unfold W at hz; rw [h] at hz; simp only [if_true] at hz; omega
    have hne : rg (fabs c) ≠ 0 := by
      intro h
      unfold W at hz
      rw [h, U_zero] at hz
      split at hz <;> omega
    by_cases d : 2139095040 < rg (fmul a (fabs c))
    · rw [decide_eq_true d, if_pos rfl]
      exact j3_p ha hb hl k
    · rw [decide_eq_false d, if_neg (by decide)]
      by_cases e : 2139095040 < rg (fmul b (fabs c))
      · rw [decide_eq_true e, if_pos rfl]
        exact j3_p ha hb hl k
      · rw [decide_eq_false e, if_neg (by decide), least_p (by omega) (by omega) (fmul_keeps ha hb hl hn hne hs (by omega) (by omega))]
        simp -implicitDefEqProofs only [Option.bind_some, Bool.not_true]
        exact j3_p ha hb hl k
theorem j1_p {a b c : Nat} (ha : rg a ≤ 2139095040) (hb : rg b ≤ 2139095040) (a0 : a < 4294967296) (b0 : b < 4294967296) (hl : W a ≤ W b) (hc : c < 4294967296) (k : Nat) : lathelaw02_FloatKeeps.j1 (k + 1 + 1 + 1) a b c = some true := by
  rw [lathelaw02_FloatKeeps.j1, add_p, add_p]
  simp -implicitDefEqProofs only [nan_p, Option.bind_some]
  by_cases d : 2139095040 < rg (fadd a c)
  · rw [decide_eq_true d, if_pos rfl]
    exact j2_p ha hb hl hc k
  · rw [decide_eq_false d, if_neg (by decide)]
    by_cases e : 2139095040 < rg (fadd b c)
    · rw [decide_eq_true e, if_pos rfl]
      exact j2_p ha hb hl hc k
    · rw [decide_eq_false e, if_neg (by decide), least_p (by omega) (by omega) (fadd_keeps ha hb a0 b0 hl (by omega) (by omega))]
      simp -implicitDefEqProofs only [Option.bind_some, Bool.not_true]
      exact j2_p ha hb hl hc k

theorem FloatKeeps : lathelaw02_FloatKeeps.Pure := by
  intro a0 a1 a2 h0 h1 h2
  obtain ⟨a, rfl, ha⟩ := pat h0
  obtain ⟨b, rfl, hb⟩ := pat h1
  obtain ⟨c, rfl, hc⟩ := pat h2
  obtain ⟨k, _⟩ : ∃ k, 0 ≤ k := ⟨0, Nat.le_refl _⟩
  refine ⟨k + 1 + 1 + 1 + 1, ?_⟩
  have out : lathelaw02_FloatKeeps.j0 (k + 1 + 1 + 1 + 1) a b c true = some true := by
    rw [lathelaw02_FloatKeeps.j0, if_pos rfl, works_f]; rfl
  unfold lathelaw02_FloatKeeps.f
  rw [nan_p, nan_p]
  simp -implicitDefEqProofs only [Option.bind_some]
  by_cases d : 2139095040 < rg a
  · rw [decide_eq_true d, if_pos rfl]
    exact out
  · rw [decide_eq_false d, if_neg (by decide)]
    by_cases e : 2139095040 < rg b
    · rw [decide_eq_true e]
      exact out
    · rw [decide_eq_false e, lathelaw02_FloatKeeps.j0, if_neg (by decide), less_p, flt_num (by omega) (by omega)]
      simp -implicitDefEqProofs only [Option.bind_some]
      by_cases g : W b < W a
      · rw [decide_eq_true g, if_pos rfl]
        exact j1_p (by omega) (by omega) hb ha (by omega) hc k
      · rw [decide_eq_false g, if_neg (by decide)]
        exact j1_p (by omega) (by omega) ha hb (by omega) hc k
end Go.Proofs.Ytcegmbplgghjnaa.Pure
