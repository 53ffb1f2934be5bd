/- The pure form of FloatNear: a sum, a product is the number that lies nearest, of two as near the even one. No condition. -/
import Derived.Test.YtcegmbplgghjnaaRlh
import Derived.Test.YtcegmbplgghjnaaPFx17
set_option linter.unusedVariables false
set_option linter.unusedSimpArgs false
namespace Go.Proofs.Ytcegmbplgghjnaa.Pure
open Go.RowKit Lathe Go.Proofs.Ytcegmbplgghjnaa.PF Go.Proofs.Ytcegmbplgghjnaa.Pub Go.Proofs.Ytcegmbplgghjnaa.Rla Go.Proofs.Ytcegmbplgghjnaa.Rlb Go.Proofs.Ytcegmbplgghjnaa.Rlc Go.Proofs.Ytcegmbplgghjnaa.Rle Go.Proofs.Ytcegmbplgghjnaa.Rlg Go.Proofs.Ytcegmbplgghjnaa.Rlh Go.Proofs.YtcegmbplgghjnaaW.PrintWords Go.Proofs.YtcegmbplgghjnaaW.PrintMore

theorem j2_p {a b L : Nat} (ha : rg a < 2139095040) (hb : rg b < 2139095040) (hs : rg (fadd a b) < 2139095040) (hL : L = min (kk a) (kk b)) (hm : max (max (kk a) (kk b)) (kk (fadd a b)) ≤ 36 + L) (k : Nat) :
    lathelaw02_FloatNear.j2 (k + 1) (M a) ((kk a : Int) - 149) (M b) ((kk b : Int) - 149) (M (fadd a b)) ((kk (fadd a b) : Int) - 149) ((L : Int) - 149) false = some true := by
  have k1 := kk_le' a
  have k2 := kk_le' b
  have k3 := kk_le' (fadd a b)
  have m1 := M_le a
  have m2 := M_le b
  have m3 := M_le (fadd a b)
  rw [lathelaw02_FloatNear.j2, if_neg (by decide), sh_c _ _ (show L ≤ kk a by omega) (by omega), sh_c _ _ (show L ≤ kk b by omega) (by omega), if_pos (by omega), if_pos (by omega)]
  rw [shl_M a _ (by omega), shl_M b _ (by omega)]
  have b1 := lt_sq m1.1 m1.2 (show kk a - L ≤ 36 by omega)
  have b2 := lt_sq m2.1 m2.2 (show kk b - L ≤ 36 by omega)
  have hS : (M a * 2 ^ (kk a - L) + M b * 2 ^ (kk b - L)) * 2 ^ L = V a + V b := by
    rw [Int.add_mul, V_shift a L (by omega), V_shift b L (by omega)]
  have hsum := sum_even ha hb hs hS
  rw [w64 (n := M a * 2 ^ (kk a - L) + M b * 2 ^ (kk b - L)) (by omega) (by omega)]
  have hb : -2305843009213693952 ≤ M a * 2 ^ (kk a - L) + M b * 2 ^ (kk b - L) ∧ M a * 2 ^ (kk a - L) + M b * 2 ^ (kk b - L) ≤ 2305843009213693952 := by omega
  clear b1 b2 hS
  generalize M a * 2 ^ (kk a - L) + M b * 2 ^ (kk b - L) = S at *
  generalize fadd a b = z at *
  by_cases c : kk z < L
  · rw [if_pos (by omega), sh_c _ _ (show kk z ≤ L by omega) (by omega), if_pos (by omega)]
    have e := hsum.1 c
    have : shl .i64 S ((L - kk z : Nat) : Int) = S * 2 ^ (L - kk z) := by
      by_cases z0 : S = 0
      · subst z0
        unfold shl
        rw [Int.zero_mul, Int.zero_mul]
        decide
      · have hd : L - kk z ≤ 64 := by
          rcases Nat.lt_or_ge 64 (L - kk z) with d | d
          · exfalso
            have h1 := natAbs_mul_pow S (L - kk z)
            rw [← pow_cast, ← e] at h1
            have h2 : 2 ^ 64 ≤ 2 ^ (L - kk z) := Nat.pow_le_pow_right (by omega) (by omega)
            have h3 : 1 * 2 ^ 64 ≤ S.natAbs * 2 ^ (L - kk z) := Nat.mul_le_mul (by omega) h2
            rw [show 1 * 2 ^ 64 = 18446744073709551616 from rfl] at h3
            omega
          · exact d
        exact shl_d _ _ hd (by omega) (by omega)
    rw [this, if_pos e, works_f]
    rfl
  · rw [if_neg (by omega), sub_c _ _ (by omega) (by omega)]
    obtain ⟨e1, e2⟩ := hsum.2 (by omega)
    have := even_f (M z) S (kk z - L) m3.1 m3.2 hb.1 hb.2 (by omega) e1 e2
    rw [show ((kk z - L : Nat) : Int) = (kk z : Int) - L by omega] at this
    rw [this]
    simp -implicitDefEqProofs only [Option.bind_some, if_true, works_f]
theorem j1_p {a b : Nat} (ha : rg a < 2139095040) (hb : rg b < 2139095040) (k : Nat) :
    lathelaw02_FloatNear.j1 (k + 1 + 1) a b (M a) ((kk a : Int) - 149) (M b) ((kk b : Int) - 149) false = some true := by
  rw [lathelaw02_FloatNear.j1, if_neg (by decide), add_p]
  simp -implicitDefEqProofs only [Option.bind_some]
  rw [parts_f _ (fadd_lt a b), finite_f _ (fadd_lt a b)]
  simp -implicitDefEqProofs only [Option.bind_some]
  rw [mn_c, mx_c, mx_c]
  have k1 := kk_le' a
  have k2 := kk_le' b
  have k3 := kk_le' (fadd a b)
  rw [sub_c _ _ (by omega) (by omega)]
  have out (x y z : Int) : lathelaw02_FloatNear.j2 (k + 1) (M a) ((kk a : Int) - 149) (M b) ((kk b : Int) - 149) x y z true = some true := by
    rw [lathelaw02_FloatNear.j2, if_pos rfl, works_f]; rfl
  by_cases c : rg (fadd a b) < 2139095040
  · rw [decide_eq_true c, if_pos rfl]
    by_cases d : max (max (kk a) (kk b)) (kk (fadd a b)) ≤ 36 + min (kk a) (kk b)
    · rw [decide_eq_false (by omega)]
      exact j2_p ha hb c rfl d k
    · rw [decide_eq_true (by omega)]
      exact out _ _ _
  · rw [decide_eq_false c, if_neg (by decide)]
    exact out _ _ _
theorem FloatNear : lathelaw02_FloatNear.Pure := by
  intro a0 a1 h0 h1
  obtain ⟨a, rfl, ha⟩ := pat h0
  obtain ⟨b, rfl, hb⟩ := pat h1
  obtain ⟨k, _⟩ : ∃ k, 0 ≤ k := ⟨0, Nat.le_refl _⟩
  refine ⟨k + 1 + 1 + 1, ?_⟩
  unfold lathelaw02_FloatNear.f
  rw [parts_f a ha, parts_f b hb, finite_f a ha, finite_f b hb]
  simp -implicitDefEqProofs only [Option.bind_some]
  have out : lathelaw02_FloatNear.j0 (k + 1 + 1 + 1) a b (M a) ((kk a : Int) - 149) (M b) ((kk b : Int) - 149) true = some true := by
    rw [lathelaw02_FloatNear.j0, if_pos rfl, works_f]; rfl
  by_cases c : rg a < 2139095040
  · rw [decide_eq_true c, if_pos rfl]
    by_cases d : rg b < 2139095040
    · rw [decide_eq_true d, lathelaw02_FloatNear.j0, if_neg (by decide), mul_p]
      simp -implicitDefEqProofs only [Option.bind_some]
      rw [parts_f _ (fmul_lt a b), finite_f _ (fmul_lt a b)]
      simp -implicitDefEqProofs only [Option.bind_some]
      have k1 := kk_le' a
      have k2 := kk_le' b
      have k3 := kk_le' (fmul a b)
      have hD : wrap64 (wrap64 (((kk (fmul a b) : Int) - 149) - ((kk a : Int) - 149)) - ((kk b : Int) - 149)) = (kk (fmul a b) : Int) + 149 - kk a - kk b := by
        rw [sub_c _ _ (by omega) (by omega), w64 (by omega) (by omega)]; omega
      rw [hD]
      by_cases e : rg (fmul a b) < 2139095040
      · rw [decide_eq_true e, if_pos rfl]
        by_cases e1 : (kk (fmul a b) : Int) + 149 - kk a - kk b ≥ 0
        · rw [if_pos e1]
          by_cases e2 : (kk (fmul a b) : Int) + 149 - kk a - kk b ≤ 36
          · rw [if_pos e2]
            obtain ⟨n, hn⟩ := Int.eq_ofNat_of_zero_le e1
            obtain ⟨t1, t2⟩ := mul_near (d := n) c d e (by omega)
            have mm := M_M a b
            have ml := M_le (fmul a b)
            rw [w64 (n := M a * M b) (by omega) (by omega), hn, even_f (M (fmul a b)) (M a * M b) n ml.1 ml.2 (by omega) (by omega) (by omega) t1 t2]
            simp -implicitDefEqProofs only [Option.bind_some, Bool.not_true]
            exact j1_p c d k
          · rw [if_neg e2]
            exact j1_p c d k
        · rw [if_neg e1]
          exact j1_p c d k
      · rw [decide_eq_false e, if_neg (by decide)]
        exact j1_p c d k
    · rw [decide_eq_false d]
      exact out
  · rw [decide_eq_false c, if_neg (by decide)]
    exact out
end Go.Proofs.Ytcegmbplgghjnaa.Pure
