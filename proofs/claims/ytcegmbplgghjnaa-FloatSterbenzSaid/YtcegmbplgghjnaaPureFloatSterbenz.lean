/- The pure form of FloatSterbenz: of two numbers of one sign, neither more than twice the other, the difference is exact. No condition. -/
import Derived.Test.YtcegmbplgghjnaaRlh
import Derived.Test.YtcegmbplgghjnaaPFx22
set_option linter.unusedVariables false
set_option linter.unusedSimpArgs false
namespace Go.Proofs.Ytcegmbplgghjnaa.Pure
open Go.RowKit Lathe Go.Proofs.Ytcegmbplgghjnaa.PF Go.Proofs.Ytcegmbplgghjnaa.Pub Go.Proofs.Ytcegmbplgghjnaa.Rla Go.Proofs.Ytcegmbplgghjnaa.Rlb Go.Proofs.Ytcegmbplgghjnaa.Rlc Go.Proofs.Ytcegmbplgghjnaa.Rle Go.Proofs.Ytcegmbplgghjnaa.Rlg Go.Proofs.Ytcegmbplgghjnaa.Rlh Go.Proofs.YtcegmbplgghjnaaW.PrintWords Go.Proofs.YtcegmbplgghjnaaW.PrintMore

theorem exact_f {s a b : Nat} (hs : s < 4294967296) (ha : a < 4294967296) (hb : b < 4294967296) (h : V a + V b = V s) : ∃ t, lathelaw02_exact.f s a b = some (t, t) := by
  unfold lathelaw02_exact.f
  rw [parts_f a ha, parts_f b hb, parts_f s hs]
  simp -implicitDefEqProofs only [Option.bind_some]
  have k1 := kk_le' a
  have k2 := kk_le' b
  have k3 := kk_le' s
  rw [mx_c, mx_c, mn_c, mn_c, sub_c _ _ (by omega) (by omega)]
  by_cases c : ((max (max (kk a) (kk b)) (kk s) : Nat) : Int) - ((min (min (kk a) (kk b)) (kk s) : Nat) : Int) > 36
  · rw [if_pos c]; exact ⟨false, rfl⟩
  · rw [if_neg c]
    generalize hL : min (min (kk a) (kk b)) (kk s) = L at *
    rw [sh_c (kk a) L (by omega) (by omega), sh_c (kk b) L (by omega) (by omega), sh_c (kk s) L (by omega) (by omega), if_pos (by omega), if_pos (by omega), if_pos (by omega)]
    rw [shl_M a _ (by omega), shl_M b _ (by omega), shl_M s _ (by omega)]
    have b1 := lt_sq (M_le a).1 (M_le a).2 (show kk a - L ≤ 36 by omega)
    have b2 := lt_sq (M_le b).1 (M_le b).2 (show kk b - L ≤ 36 by omega)
    rw [← V_shift a L (by omega), ← V_shift b L (by omega), ← V_shift s L (by omega), ← Int.add_mul] at h
    have hP : (2 : Int) ^ L ≠ 0 := by rw [pow_cast]; have := Nat.two_pow_pos L; omega
    have := Int.eq_of_mul_eq_mul_right hP h
    rw [w64 (by omega) (by omega), this]
    exact ⟨true, by simp⟩
/-- A number without its sign; that taken twice is not below another. -/
theorem abs_fin {a : Nat} (h : rg a < 2139095040) : fabs a = rg a ∧ rg (rg a) = rg a ∧ V (rg a) = (U 23 (rg a) : Int) := by
  have hr : rg (rg a) = rg a := by unfold rg; omega
  have hs : sg (rg a) = false := by
    have := rg_lt a
    unfold sg
    rw [Nat.div_eq_of_lt this]; rfl
  refine ⟨tl_num (by omega), hr, ?_⟩
  unfold V
  rw [hs, hr]; rfl
theorem twice {x y : Nat} (hx : rg x < 2139095040) (hy : rg y < 2139095040) (h : flt (fadd (fabs x) (fabs x)) (fabs y) = false) : U 23 (rg y) ≤ 2 * U 23 (rg x) := by
  obtain ⟨x1, x2, x3⟩ := abs_fin hx
  obtain ⟨y1, y2, y3⟩ := abs_fin hy
  rw [x1, y1] at h
  obtain ⟨z, z1, z2⟩ := W_add (a := rg x) (b := rg x) (by omega) (by omega)
  have hrep : rep (V (rg x) + V (rg x)) := by
    obtain ⟨p, a1, a2, a3⟩ := (rep_V (rg x)).place
    refine rep_of (p + 1) ?_ ?_
    · obtain ⟨n, hn⟩ := a1
      refine ⟨n, ?_⟩
      rw [Nat.pow_succ]
      have : 2 ^ p * 2 * n = 2 * (2 ^ p * n) := by grind
      rw [this, ← hn]
      omega
    · rw [Nat.pow_succ]; omega
  obtain rfl := z1.exact hrep
  obtain ⟨R, g, e⟩ := fadd_fin (a := rg x) (b := rg x) (by omega) (by omega)
  have hn : rg (fadd (rg x) (rg x)) ≤ 2139095040 := by rw [e, rg_pk (by omega)]; omega
  rw [flt_num hn (by omega), decide_eq_false_iff_not, z2, W_V, x3, y3] at h
  have := U_mono (f := 23) hy
  omega

theorem FloatSterbenz : lathelaw02_FloatSterbenz.Pure := by
  intro a0 a1 h0 h1
  obtain ⟨a, rfl, ha⟩ := pat h0
  obtain ⟨b, rfl, hb⟩ := pat h1
  obtain ⟨k, _⟩ : ∃ k, 0 ≤ k := ⟨0, Nat.le_refl _⟩
  refine ⟨k + 1 + 1, ?_⟩
  unfold lathelaw02_FloatSterbenz.f
  rw [finite_f a ha, finite_f b hb, n_f a ha, n_f b hb]
  simp -implicitDefEqProofs only [Option.bind_some]
  have out : lathelaw02_FloatSterbenz.j0 (k + 1 + 1) a b true = some true := by
    rw [lathelaw02_FloatSterbenz.j0, if_pos rfl, works_f]; rfl
  by_cases c : rg a < 2139095040
  · rw [decide_eq_true c, if_pos rfl]
    by_cases d : rg b < 2139095040
    · rw [decide_eq_true d, if_pos rfl]
      by_cases hs : sg a = sg b
      · have hs' : (a : Int) / 2147483648 = (b : Int) / 2147483648 := by
          unfold sg at hs
          rw [Bool.eq_iff_iff] at hs
          simp at hs
          omega
        rw [hs', bne_self_eq_false, lathelaw02_FloatSterbenz.j0, if_neg (by decide), abs_p a ha, abs_p b hb]
        simp -implicitDefEqProofs only [add_p, less_p, Option.bind_some]
        have out : lathelaw02_FloatSterbenz.j1 (k + 1) a b true = some true := by
          rw [lathelaw02_FloatSterbenz.j1, if_pos rfl, works_f]; rfl
        cases l1 : flt (fadd (fabs a) (fabs a)) (fabs b)
        · rw [if_neg (by decide)]
          cases l2 : flt (fadd (fabs b) (fabs b)) (fabs a)
          · rw [lathelaw02_FloatSterbenz.j1, if_neg (by decide), sub_p]
            simp -implicitDefEqProofs only [Option.bind_some]
            have t1 := twice c d l1
            have t2 := twice d c l2
            have vs : V a - V b = (if sg a then -((U 23 (rg a) : Int) - (U 23 (rg b) : Int)) else ((U 23 (rg a) : Int) - (U 23 (rg b) : Int))) := by
              unfold V
              rw [← hs]
              split <;> omega
            have hr : ∃ r, (V a - V b).natAbs = U 23 r := by
              rcases Nat.le_total (U 23 (rg b)) (U 23 (rg a)) with l | l
              · obtain ⟨r, hr⟩ := sterbenz ⟨rg a, rfl⟩ ⟨rg b, rfl⟩ t2 l
                exact ⟨r, by rw [vs]; split <;> omega⟩
              · obtain ⟨r, hr⟩ := sterbenz ⟨rg b, rfl⟩ ⟨rg a, rfl⟩ t1 l
                exact ⟨r, by rw [vs]; split <;> omega⟩
            obtain ⟨r, hr⟩ := hr
            have hfin : rg (fsub a b) < 2139095040 := by
              obtain ⟨R, g, e⟩ := fadd_fin c (b := flip b) (by rw [rg_flip hb]; exact d)
              rw [V_flip hb, ← Int.sub_eq_add_neg] at g
              have g := near_iff.2 g
              have : R = r := by
                have s := Near.self 23 r
                rw [← hr] at s
                exact g.unique s (by omega) (by omega) rfl
              have hlt : R < 2139095040 := by
                rw [this]
                refine (U_lt_iff (f := 23)).1 ?_
                have u1 := U_mono (f := 23) c
                have u2 := U_mono (f := 23) d
                rw [← hr, vs]
                split <;> omega
              rw [fsub_flip hb, e, rg_pk (by omega)]
              omega
            have hV := (fsub_RN c d hb hfin).exact ⟨r, hr⟩
            obtain ⟨t, ht⟩ := exact_f ha (fsub_lt a b) hb (show V (fsub a b) + V b = V a by omega)
            rw [ht, finite_f _ (fsub_lt a b), decide_eq_true hfin, works_f]
            cases t <;> rfl
          · exact out
        · rw [if_pos rfl]; exact out
      · have hs' : ((a : Int) / 2147483648 != (b : Int) / 2147483648) = true := by
          rw [bne_iff_ne, ne_eq]
          intro h
          apply hs
          unfold sg
          have : a / 2147483648 = b / 2147483648 := by omega
          rw [this]
        rw [hs']; exact out
    · rw [decide_eq_false d, if_neg (by decide)]; exact out
  · rw [decide_eq_false c, if_neg (by decide)]; exact out
end Go.Proofs.Ytcegmbplgghjnaa.Pure
