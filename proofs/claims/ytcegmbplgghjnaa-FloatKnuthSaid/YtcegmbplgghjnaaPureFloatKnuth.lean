/- The pure form of FloatKnuth: six operations find the error of a sum, exactly. No condition. -/
import Derived.Test.YtcegmbplgghjnaaRlh
import Derived.Test.YtcegmbplgghjnaaPFx20
set_option linter.unusedVariables false
set_option linter.unusedSimpArgs false
namespace Go.Proofs.Ytcegmbplgghjnaa.Pure
open Go.RowKit Lathe Go.Proofs.Ytcegmbplgghjnaa.PF Go.Proofs.Ytcegmbplgghjnaa.Pub Go.Proofs.Ytcegmbplgghjnaa.Rla Go.Proofs.Ytcegmbplgghjnaa.Rlb Go.Proofs.Ytcegmbplgghjnaa.Rlc Go.Proofs.Ytcegmbplgghjnaa.Rle Go.Proofs.Ytcegmbplgghjnaa.Rlg Go.Proofs.Ytcegmbplgghjnaa.Rlh Go.Proofs.YtcegmbplgghjnaaW.PrintWords Go.Proofs.YtcegmbplgghjnaaW.PrintMore

theorem shl_x (x : Int) (d : Nat) (h0 : -16777216 ≤ x) (h1 : x ≤ 16777216) (hd : d ≤ 36) : shl .i64 x (d : Int) = x * 2 ^ d := by
  have := lt_sq h0 h1 hd
  exact shl_d _ _ (by omega) (by omega) (by omega)
theorem sh_pow (x : Int) {i L : Nat} (h : L ≤ i) : x * 2 ^ (i - L) * 2 ^ L = x * 2 ^ i := by
  rw [Int.mul_assoc, ← Int.pow_add]
  congr 2
  omega
theorem knuth_j2 (k : Nat) {x y z w : Int} {i j l m L : Nat} (x0 : -16777216 ≤ x) (x1 : x ≤ 16777216) (y0 : -16777216 ≤ y) (y1 : y ≤ 16777216) (z0 : -16777216 ≤ z) (z1 : z ≤ 16777216) (w0 : -16777216 ≤ w) (w1 : w ≤ 16777216)
    (i0 : i ≤ 254) (j0 : j ≤ 254) (l0 : l ≤ 254) (m0 : m ≤ 254) (li : L ≤ i) (lj : L ≤ j) (ll : L ≤ l) (lm : L ≤ m) (h : x * 2 ^ i + y * 2 ^ j = z * 2 ^ l + w * 2 ^ m) :
    lathelaw02_FloatKnuth.j2 (k + 1) x ((i : Int) - 149) y ((j : Int) - 149) z ((l : Int) - 149) w ((m : Int) - 149) ((L : Int) - 149) = some true := by
  rw [lathelaw02_FloatKnuth.j2, mx_c, mx_c, mx_c, sub_c _ _ (by omega) (by omega), works_f]
  simp -implicitDefEqProofs only [Option.bind_some]
  by_cases c : ((max (max (max i j) l) m : Nat) : Int) - (L : Int) > 36
  · rw [if_pos c]
  · rw [if_neg c, sh_c i L li (by omega), sh_c j L lj (by omega), sh_c l L ll (by omega), sh_c m L lm (by omega), if_pos (by omega), if_pos (by omega), if_pos (by omega), if_pos (by omega)]
    rw [shl_x x _ x0 x1 (by omega), shl_x y _ y0 y1 (by omega), shl_x z _ z0 z1 (by omega), shl_x w _ w0 w1 (by omega)]
    have bx := lt_sq x0 x1 (show i - L ≤ 36 by omega)
    have by' := lt_sq y0 y1 (show j - L ≤ 36 by omega)
    have bz := lt_sq z0 z1 (show l - L ≤ 36 by omega)
    have bw := lt_sq w0 w1 (show m - L ≤ 36 by omega)
    rw [← sh_pow x li, ← sh_pow y lj, ← sh_pow z ll, ← sh_pow w lm, ← Int.add_mul, ← Int.add_mul] at h
    have hP : (2 : Int) ^ L ≠ 0 := by rw [pow_cast]; have := Nat.two_pow_pos L; omega
    have := Int.eq_of_mul_eq_mul_right hP h
    rw [w64 (by omega) (by omega), w64 (by omega) (by omega), if_pos this]

theorem FloatKnuth : lathelaw02_FloatKnuth.Pure := by
  intro a0 a1 h0 h1
  obtain ⟨a, rfl, ha⟩ := pat h0
  obtain ⟨b, rfl, hb⟩ := pat h1
  obtain ⟨k, _⟩ : ∃ k, 0 ≤ k := ⟨0, Nat.le_refl _⟩
  refine ⟨k + 1 + 1 + 1, ?_⟩
  unfold lathelaw02_FloatKnuth.f
  rw [finite_f a ha, finite_f b hb, add_p]
  simp -implicitDefEqProofs only [Option.bind_some]
  rw [finite_f _ (fadd_lt a b)]
  simp -implicitDefEqProofs only [Option.bind_some]
  have out : lathelaw02_FloatKnuth.j0 (k + 1 + 1 + 1) a b (fadd a b) true = some true := by
    rw [lathelaw02_FloatKnuth.j0, if_pos rfl, works_f]; rfl
  by_cases c : rg a < 2139095040
  · rw [decide_eq_true c, if_pos rfl]
    by_cases d : rg b < 2139095040
    · rw [decide_eq_true d, if_pos rfl]
      by_cases e : rg (fadd a b) < 2139095040
      · rw [decide_eq_true e, Bool.not_true, lathelaw02_FloatKnuth.j0, if_neg (by decide)]
        simp -implicitDefEqProofs only [sub_p, add_p, Option.bind_some]
        rw [finite_f _ (fsub_lt _ _), finite_f _ (fadd_lt _ _)]
        simp -implicitDefEqProofs only [Option.bind_some]
        have out (x : Int) : lathelaw02_FloatKnuth.j1 (k + 1 + 1) a b (fadd a b) x true = some true := by
          rw [lathelaw02_FloatKnuth.j1, if_pos rfl, works_f]; rfl
        by_cases g : rg (fsub (fadd a b) a) < 2139095040
        · rw [decide_eq_true g, if_pos rfl]
          by_cases i : rg (fadd (fsub a (fsub (fadd a b) (fsub (fadd a b) a))) (fsub b (fsub (fadd a b) a))) < 2139095040
          · rw [decide_eq_true i, Bool.not_true, lathelaw02_FloatKnuth.j1, if_neg (by decide)]
            have hK := fknuth c d ha fsub_lt e g i
            have he := fadd_lt (fsub a (fsub (fadd a b) (fsub (fadd a b) a))) (fsub b (fsub (fadd a b) a))
            generalize fadd (fsub a (fsub (fadd a b) (fsub (fadd a b) a))) (fsub b (fsub (fadd a b) a)) = r at *
            rw [parts_f a ha, parts_f b hb, parts_f _ (fadd_lt a b), parts_f r he]
            simp -implicitDefEqProofs only [Option.bind_some]
            rw [mn_c, mn_c, mn_c]
            generalize fadd a b = s at *
            have k1 := kk_le' a
            have k2 := kk_le' b
            have k3 := kk_le' s
            have k4 := kk_le' r
            rw [V_M, V_M, V_M, V_M] at hK
            by_cases z : M r = 0
            · rw [if_pos z]
              rw [z, Int.zero_mul] at hK
              exact knuth_j2 k (M_le a).1 (M_le a).2 (M_le b).1 (M_le b).2 (M_le s).1 (M_le s).2 (M_le r).1 (M_le r).2 k1 k2 k3 (by omega) (by omega) (by omega) (by omega) (Nat.le_refl _) (by rw [z, Int.zero_mul]; exact hK)
            · rw [if_neg z]
              exact knuth_j2 k (M_le a).1 (M_le a).2 (M_le b).1 (M_le b).2 (M_le s).1 (M_le s).2 (M_le r).1 (M_le r).2 k1 k2 k3 k4 (by omega) (by omega) (by omega) (by omega) hK
          · rw [decide_eq_false i]; exact out _
        · rw [decide_eq_false g, if_neg (by decide)]; exact out _
      · rw [decide_eq_false e]; exact out
    · rw [decide_eq_false d, if_neg (by decide)]; exact out
  · rw [decide_eq_false c, if_neg (by decide)]; exact out
end Go.Proofs.Ytcegmbplgghjnaa.Pure
