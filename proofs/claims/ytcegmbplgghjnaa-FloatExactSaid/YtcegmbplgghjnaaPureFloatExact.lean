/- The pure form of FloatExact: products of numbers of 12 bits are exact; the root of a square is the number; whole numbers add and multiply. No condition. -/
import Derived.Test.YtcegmbplgghjnaaRlh
import Derived.Test.YtcegmbplgghjnaaFpf
import Derived.Test.YtcegmbplgghjnaaPFx20
import Derived.Test.YtcegmbplgghjnaaPFx21
set_option linter.unusedVariables false
set_option linter.unusedSimpArgs false
namespace Go.Proofs.Ytcegmbplgghjnaa.Pure
open Go.RowKit Lathe Go.Proofs.Ytcegmbplgghjnaa.PF Go.Proofs.Ytcegmbplgghjnaa.Pub Go.Proofs.Ytcegmbplgghjnaa.Rla Go.Proofs.Ytcegmbplgghjnaa.Rlb Go.Proofs.Ytcegmbplgghjnaa.Rlc Go.Proofs.Ytcegmbplgghjnaa.Rle Go.Proofs.Ytcegmbplgghjnaa.Rlg Go.Proofs.Ytcegmbplgghjnaa.Rlh Go.Proofs.YtcegmbplgghjnaaW.PrintWords Go.Proofs.YtcegmbplgghjnaaW.PrintMore

theorem and_mask (a : Nat) (ha : a < 4294967296) : Go.bits .and .u32 (a : Int) 4294963200 = ((a / 4096 * 4096 : Nat) : Int) := by
  have h := u32_and_nat a 4294963200 ha (by omega)
  have e : a &&& 4294963200 = a / 4096 * 4096 := by
    apply Nat.eq_of_testBit_eq
    intro i
    have e1 : (4294963200 : Nat) = (2 ^ 20 - 1) <<< 12 := by decide
    have e2 : a / 4096 * 4096 = (a / 2 ^ 12 % 2 ^ 20) <<< 12 := by
      rw [Nat.shiftLeft_eq]
      have h1 : a / 2 ^ 12 % 2 ^ 20 = a / 4096 := by omega
      rw [h1]
    rw [e2, Nat.testBit_and]
    conv => lhs; rw [e1]
    rw [Nat.testBit_shiftLeft, Nat.testBit_shiftLeft, Nat.testBit_two_pow_sub_one, Nat.testBit_mod_two_pow, Nat.testBit_div_two_pow]
    by_cases h : 12 ≤ i
    · rw [show i - 12 + 12 = i by omega]
      simp [h, Bool.and_comm]
    · simp [h]
  rw [e] at h
  exact h
theorem abs_fin' {a : Nat} (h : rg a ≤ 2139095040) : fabs a = rg a ∧ rg (rg a) = rg a ∧ W (rg a) = (U 23 (rg a) : Int) := by
  have hr : rg (rg a) = rg a := by unfold rg; omega
  have hs : sg (rg a) = false := by
    have := rg_lt a
    unfold sg
    rw [Nat.div_eq_of_lt this]; rfl
  refine ⟨tl_num (by omega), hr, ?_⟩
  unfold W
  rw [hs, hr]; rfl
/-- A size that is not below a number reaches its rung, and the other way about. -/
theorem size_ge {a n : Nat} (h : rg a ≤ 2139095040) (hn : n ≤ 2139095040) (hl : flt (fabs a) n = false) : n ≤ rg a := by
  obtain ⟨x1, x2, x3⟩ := abs_fin' h
  have n1 : rg n = n := by unfold rg; omega
  have n2 : sg n = false := by unfold sg; rw [Nat.div_eq_of_lt (by omega)]; rfl
  have n3 : W n = (U 23 n : Int) := by unfold W; rw [n1, n2]; rfl
  rw [x1, flt_num (by omega) (by omega), decide_eq_false_iff_not, x3, n3] at hl
  exact (U_le_iff (f := 23)).1 (by omega)
theorem size_le {a n : Nat} (h : rg a ≤ 2139095040) (hn : n ≤ 2139095040) (hl : flt n (fabs a) = false) : rg a ≤ n := by
  obtain ⟨x1, x2, x3⟩ := abs_fin' h
  have n1 : rg n = n := by unfold rg; omega
  have n2 : sg n = false := by unfold sg; rw [Nat.div_eq_of_lt (by omega)]; rfl
  have n3 : W n = (U 23 n : Int) := by unfold W; rw [n1, n2]; rfl
  rw [x1, flt_num (by omega) (by omega), decide_eq_false_iff_not, x3, n3] at hl
  exact (U_le_iff (f := 23)).1 (by omega)
theorem fint_p {n : Int} (h : n.natAbs ≤ 16777216) : float_FromInt.f n = some ((fint n : Nat) : Int) := by
  unfold float_FromInt.f
  rw [tl_num (by have := (fint_V h).1; omega)]
theorem tmod_p (x : Int) : (Int.tmod x 4097).natAbs ≤ 4096 := by
  have := Int.natAbs_tmod x 4097
  rw [this]
  have := Nat.mod_lt x.natAbs (show 0 < (4097 : Int).natAbs by decide)
  have e : (4097 : Int).natAbs = 4097 := rfl
  omega
theorem exact_j2 (k : Nat) (x y : Int) : lathelaw02_FloatExact.j2 (k + 1) x y false = some true := by
  rw [lathelaw02_FloatExact.j2, if_neg (by decide)]
  have hp := tmod_p x
  have hq := tmod_p y
  generalize Int.tmod x 4097 = p at *
  generalize Int.tmod y 4097 = q at *
  have hm : (p * q).natAbs ≤ 16777216 := by
    rw [Int.natAbs_mul]
    exact Nat.mul_le_mul hp hq
  rw [w64 (n := p + q) (by omega) (by omega), w64 (n := p * q) (by omega) (by omega), fint_p (n := p + q) (by omega), fint_p (n := p) (by omega), fint_p (n := q) (by omega), fint_p hm]
  simp -implicitDefEqProofs only [add_p, mul_p, Option.bind_some]
  rw [fint_add hp hq, if_pos rfl, works_f]
  simp -implicitDefEqProofs only [Option.bind_some]
  obtain ⟨r, s, e1, e2, hr, z1, z2⟩ := fint_mul hp hq
  have : lathelaw02_fixed.f ((fmul (fint p) (fint q) : Nat) : Int) = some ((fint (p * q) : Nat) : Int) := by
    unfold lathelaw02_fixed.f
    by_cases z : p * q = 0
    · have hr0 := z1 z
      subst hr0
      rw [e1, e2, z]
      cases s
      · rw [if_neg (by decide)]; rfl
      · rw [if_pos (by decide)]; rfl
    · obtain ⟨hr0, hs⟩ := z2 z
      rw [e1, e2, ← hs, if_neg ?_]
      unfold pk
      split <;> omega
  rw [this]
  simp -implicitDefEqProofs only [Option.bind_some, if_true]
theorem exact_j1 (k : Nat) (a : Nat) (x y : Int) (ha : a < 4294967296) : lathelaw02_FloatExact.j1 (k + 1 + 1) a x y = some true := by
  rw [lathelaw02_FloatExact.j1, abs_p a ha]
  have e0 : (562036736 : Int) = ((562036736 : Nat) : Int) := rfl
  have e1 : (1568669696 : Int) = ((1568669696 : Nat) : Int) := rfl
  simp -implicitDefEqProofs only [Option.bind_some]
  rw [e0, e1]
  simp -implicitDefEqProofs only [less_p, mul_p, sqrt_p, Option.bind_some]
  rw [finite_f _ abs_lt]
  simp -implicitDefEqProofs only [Option.bind_some]
  cases l1 : flt (fabs a) 562036736
  · rw [if_neg (by decide)]
    cases l2 : flt 1568669696 (fabs a)
    · rw [if_neg (by decide)]
      by_cases c : rg (fabs a) < 2139095040
      · rw [decide_eq_true c, if_pos rfl]
        have h : rg a ≤ 2139095040 := by
          rcases Nat.lt_or_ge 2139095040 (rg a) with d | d
          · have : fabs a = 2143289344 := tl_nan (by unfold rg at *; omega)
            rw [this] at c
            exact absurd c (by decide)
          · exact d
        have r1 := size_ge h (by omega) l1
        have r2 := size_le h (by omega) l2
        rw [root_square r1 r2, (abs_fin' h).1, bne_self_eq_false]
        exact exact_j2 k x y
      · rw [decide_eq_false c, if_neg (by decide)]
        exact exact_j2 k x y
    · rw [if_pos rfl]
      exact exact_j2 k x y
  · rw [if_pos rfl]
    exact exact_j2 k x y
theorem mask_mg (a : Nat) : mg (a / 4096 * 4096) % 4096 = 0 := by
  unfold mg rg
  split <;> omega
theorem mask_lt {a : Nat} (h : a < 4294967296) : a / 4096 * 4096 < 4294967296 := by omega
theorem exact_j0 (k a A B : Nat) (a2 a3 : Int) (ha : a < 4294967296) (hA : A < 4294967296) (hB : B < 4294967296) (m1 : mg A % 4096 = 0) (m2 : mg B % 4096 = 0) (c : rg A < 2139095040) (d : rg B < 2139095040) (e : rg (fmul A B) < 2139095040) (l : flt (fabs (fmul A B)) 8388608 = false) :
    lathelaw02_FloatExact.j0 (k + 1 + 1 + 1) a a2 a3 A B (fmul A B) true = some true := by
  rw [lathelaw02_FloatExact.j0, if_pos rfl, parts_f A hA, parts_f B hB, parts_f _ (fmul_lt A B)]
  simp -implicitDefEqProofs only [Option.bind_some]
  obtain ⟨t, t1, t2, t3, t4⟩ := prod12 c d m1 m2 e (size_ge (Nat.le_of_lt e) (by decide) l)
  clear l e c d m1 m2
  have k1 := kk_le' A
  have k2 := kk_le' B
  have k3 := kk_le' (fmul A B)
  have hD : wrap64 (wrap64 (((kk A : Int) - 149) + ((kk B : Int) - 149)) - ((kk (fmul A B) : Int) - 149)) = -(t : Int) := by
    rw [w64 (n := ((kk A : Int) - 149) + ((kk B : Int) - 149)) (by omega) (by omega), w64 (by omega) (by omega)]; omega
  have mm := M_M A B
  rw [hD, if_neg (by omega), if_neg (by omega), w64 (n := - -(t : Int)) (by omega) (by omega), Int.neg_neg, u64 (by omega) (by omega), if_pos (by omega), shl_M _ t (by omega), w64 (n := M A * M B) (by omega) (by omega), if_pos t4]
  exact exact_j1 k a a2 a3 ha
theorem exact_f0 (k a A B : Nat) (a2 a3 : Int) (ha : a < 4294967296) (hA : A < 4294967296) (hB : B < 4294967296) (m1 : mg A % 4096 = 0) (m2 : mg B % 4096 = 0) :
    ((float_Mul.f A B).bind fun t498 => ((float_Abs.f t498).bind fun t499 => ((float_Finite.f A).bind fun t500 => (if t500 = true then ((float_Finite.f B).bind fun t501 => (if t501 = true then ((float_Finite.f t498).bind fun t502 => (if t502 = true then ((float_Less.f t499 8388608).bind fun t503 => (lathelaw02_FloatExact.j0 (k + 1 + 1 + 1) a a2 a3 A B t498 (!t503))) else (lathelaw02_FloatExact.j0 (k + 1 + 1 + 1) a a2 a3 A B t498 false))) else (lathelaw02_FloatExact.j0 (k + 1 + 1 + 1) a a2 a3 A B t498 false))) else (lathelaw02_FloatExact.j0 (k + 1 + 1 + 1) a a2 a3 A B t498 false))))) = some true := by
  have e0 : (8388608 : Int) = ((8388608 : Nat) : Int) := rfl
  have out : lathelaw02_FloatExact.j0 (k + 1 + 1 + 1) a a2 a3 A B (fmul A B) false = some true := by
    rw [lathelaw02_FloatExact.j0, if_neg (by decide)]
    exact exact_j1 k a a2 a3 ha
  rw [mul_p, e0]
  simp -implicitDefEqProofs only [Option.bind_some]
  rw [abs_p _ (fmul_lt A B), finite_f A hA, finite_f B hB, finite_f _ (fmul_lt A B)]
  simp -implicitDefEqProofs only [less_p, Option.bind_some]
  by_cases c : rg A < 2139095040
  · rw [decide_eq_true c, if_pos rfl]
    by_cases d : rg B < 2139095040
    · rw [decide_eq_true d, if_pos rfl]
      by_cases e : rg (fmul A B) < 2139095040
      · rw [decide_eq_true e, if_pos rfl]
        cases l : flt (fabs (fmul A B)) 8388608
        · exact exact_j0 k a A B a2 a3 ha hA hB m1 m2 c d e l
        · exact out
      · rw [decide_eq_false e, if_neg (by decide)]; exact out
    · rw [decide_eq_false d, if_neg (by decide)]; exact out
  · rw [decide_eq_false c, if_neg (by decide)]; exact out
theorem FloatExact (a0 a1 a2 a3 : Int) (h0 : (Lit.int .u32 a0).wf = true) (h1 : (Lit.int .u32 a1).wf = true) (_h2 : (Lit.int .i64 a2).wf = true) (_h3 : (Lit.int .i64 a3).wf = true) : ∃ k, lathelaw02_FloatExact.f k a0 a1 a2 a3 = some true := by
  obtain ⟨a, rfl, ha⟩ := pat h0
  obtain ⟨b, rfl, hb⟩ := pat h1
  obtain ⟨k, _⟩ : ∃ k, 0 ≤ k := ⟨0, Nat.le_refl _⟩
  refine ⟨k + 1 + 1 + 1, ?_⟩
  unfold lathelaw02_FloatExact.f
  rw [and_mask a ha, and_mask b hb]
  exact exact_f0 k a _ _ a2 a3 ha (mask_lt ha) (mask_lt hb) (mask_mg a) (mask_mg b)
end Go.Proofs.Ytcegmbplgghjnaa.Pure
