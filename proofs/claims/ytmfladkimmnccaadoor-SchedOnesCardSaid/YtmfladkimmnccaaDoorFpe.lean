/- Sums, products, roots keep the order; the root of a square; products of few digits; whole numbers. No condition. -/
import Derived.Test.YtmfladkimmnccaaDoorFpd
import Derived.Test.YtmfladkimmnccaaDoorFpb
set_option linter.unusedVariables false
set_option linter.unusedSimpArgs false

namespace Lathe
open Ieee

theorem fsqrt_of {a : Nat} {o : Option Nat} (h : single.sqrt a = o) : fsqrt a = res o := by unfold fsqrt; rw [h]
theorem W_pk {s : Bool} {r : Nat} (h : r < 2147483648) : W (pk s r) = if s then -(U 23 r : Int) else (U 23 r : Int) := by
  unfold W
  rw [sg_pk h, rg_pk h]
theorem W_top (a : Nat) (h : rg a ≤ 2139095040) : -(U 23 2139095040 : Int) ≤ W a ∧ W a ≤ (U 23 2139095040 : Int) := by
  have := U_le (f := 23) h
  unfold W
  split <;> omega
theorem W_inf {a : Nat} (h : rg a = 2139095040) : W a = if sg a then -(U 23 2139095040 : Int) else (U 23 2139095040 : Int) := by
  unfold W
  rw [h]
theorem W_fin {a : Nat} (h : rg a < 2139095040) : -(U 23 2139095040 : Int) < W a ∧ W a < (U 23 2139095040 : Int) := by
  have := U_mono (f := 23) h
  unfold W
  split <;> omega
theorem pat_eq {a b : Nat} (ha : a < 4294967296) (hb : b < 4294967296) (h : sg a = sg b) (h' : rg a = rg b) : a = b := by
  rw [← pk_of ha, ← pk_of hb, h, h']

/-- What a finite sum's pattern is worth. -/
theorem W_add {a b : Nat} (ha : rg a < 2139095040) (hb : rg b < 2139095040) : ∃ z, RN (V a + V b) z ∧ W (fadd a b) = max (-(U 23 2139095040 : Int)) (min (U 23 2139095040 : Int) z) := by
  obtain ⟨R, g, e⟩ := fadd_fin ha hb
  have g := near_iff.2 g
  refine ⟨_, ⟨R, g, rfl⟩, ?_⟩
  rw [e, W_pk (by omega)]
  have h1 : U 23 (min R 2139095040) = min (U 23 R) (U 23 2139095040) := by
    rcases Nat.le_total R 2139095040 with c | c
    · have := U_le (f := 23) c
      rw [Nat.min_eq_left c, Nat.min_eq_left this]
    · have := U_le (f := 23) c
      rw [Nat.min_eq_right c, Nat.min_eq_right this]
  rw [h1]
  by_cases z : V a + V b = 0
  · rw [z] at g
    have : R = 0 := g.unique (Near.self 23 0) (by omega) (by omega) (by rw [U_zero]; rfl)
    subst this
    rw [z, U_zero]
    have : U 23 2139095040 > 0 := U_pos (by omega)
    split <;> omega
  · rw [if_neg z]
    by_cases n : V a + V b < 0
    · rw [decide_eq_true n, if_pos rfl, if_pos n]; omega
    · rw [decide_eq_false n, if_neg n]
      simp only [Bool.false_eq_true, if_false]; omega

theorem fadd_keeps {a b c : Nat} (ha : rg a ≤ 2139095040) (hb : rg b ≤ 2139095040) (a0 : a < 4294967296) (b0 : b < 4294967296) (hl : W a ≤ W b)
    (hx : rg (fadd a c) ≤ 2139095040) (hy : rg (fadd b c) ≤ 2139095040) : W (fadd a c) ≤ W (fadd b c) := by
  have nan_big : ¬ rg 2143289344 ≤ 2139095040 := by decide
  rcases Nat.lt_trichotomy (rg c) 2139095040 with k | k | k
  · rcases Nat.lt_or_ge (rg a) 2139095040 with i | i
    · rcases Nat.lt_or_ge (rg b) 2139095040 with j | j
      · obtain ⟨x, x1, x2⟩ := W_add i k
        obtain ⟨y, y1, y2⟩ := W_add j k
        have hl : V a ≤ V b := hl
        have := x1.mono y1 (by omega)
        rw [x2, y2]
        omega
      · have j : rg b = 2139095040 := by omega
        have := W_top _ hx
        have w := W_fin i
        rw [W_inf j] at hl
        rw [fadd_inf_fin j k, W_pk (by omega)]
        cases hs : sg b
        · simp only [hs, Bool.false_eq_true, if_false] at hl ⊢; omega
        · simp only [hs, if_true] at hl ⊢; omega
    · have i : rg a = 2139095040 := by omega
      have w := W_top _ hy
      rcases Nat.lt_or_ge (rg b) 2139095040 with j | j
      · have w' := W_fin j
        rw [W_inf i] at hl
        rw [fadd_inf_fin i k, W_pk (by omega)]
        cases hs : sg a
        · simp only [hs, Bool.false_eq_true, if_false] at hl ⊢; omega
        · simp only [hs, if_true] at hl ⊢; omega
      · have j : rg b = 2139095040 := by omega
        rw [fadd_inf_fin i k, fadd_inf_fin j k, W_pk (by omega), W_pk (by omega)]
        rw [W_inf i, W_inf j] at hl
        exact hl
  · have key {d : Nat} (hd : rg d ≤ 2139095040) (h : rg (fadd d c) ≤ 2139095040) : fadd d c = pk (sg c) 2139095040 := by
      rcases Nat.lt_or_ge (rg d) 2139095040 with i | i
      · exact fadd_fin_inf i k
      · have e := fadd_inf_inf (show rg d = 2139095040 by omega) k
        by_cases s : sg d = sg c
        · rw [if_pos s, s] at e; exact e
        · rw [if_neg s] at e
          rw [e] at h
          exact absurd h nan_big
    rw [key ha hx, key hb hy]
    omega
  · rw [fadd_nan (.inr k)] at hx
    exact absurd hx nan_big

theorem W_is {s : Bool} {c : Nat → Ordering} {x : Nat} (h : Is s c x) : ∃ R, NearC 23 R c ∧ W x = if s then -(min (U 23 R) (U 23 2139095040) : Int) else (min (U 23 R) (U 23 2139095040) : Int) := by
  obtain ⟨R, g, rfl⟩ := h
  refine ⟨R, g, ?_⟩
  rw [W_pk (by omega)]
  have h1 : U 23 (min R 2139095040) = min (U 23 R) (U 23 2139095040) := by
    rcases Nat.le_total R 2139095040 with c | c
    · have := U_le (f := 23) c
      rw [Nat.min_eq_left c, Nat.min_eq_left this]
    · have := U_le (f := 23) c
      rw [Nat.min_eq_right c, Nat.min_eq_right this]
  rw [h1]
  split <;> omega

theorem fmul_keeps {a b c : Nat} (ha : rg a ≤ 2139095040) (hb : rg b ≤ 2139095040) (hl : W a ≤ W b) (hc : rg c ≤ 2139095040) (c0 : rg c ≠ 0) (cs : sg c = false)
    (hx : rg (fmul a c) ≤ 2139095040) (hy : rg (fmul b c) ≤ 2139095040) : W (fmul a c) ≤ W (fmul b c) := by
  have nan_big : ¬ rg 2143289344 ≤ 2139095040 := by decide
  have w1 := W_top _ hx
  have w2 := W_top _ hy
  -- an infinite product
  have key {d : Nat} (hd : rg d ≤ 2139095040) (h : rg (fmul d c) ≤ 2139095040) (hi : rg c = 2139095040 ∨ rg d = 2139095040) : fmul d c = pk (sg d) 2139095040 ∧ rg d ≠ 0 := by
    rcases Nat.lt_or_ge (rg d) 2139095040 with i | i
    · have k : rg c = 2139095040 := by omega
      have e := fmul_fin_inf i k
      by_cases s : rg d = 0
      · rw [if_pos s] at e
        rw [e] at h
        exact absurd h nan_big
      · rw [if_neg s, cs, Bool.false_xor] at e
        exact ⟨e, s⟩
    · have i : rg d = 2139095040 := by omega
      refine ⟨?_, by omega⟩
      rcases Nat.lt_or_ge (rg c) 2139095040 with k | k
      · rw [fmul_inf_fin i k, if_neg c0, cs, Bool.xor_false]
      · rw [fmul_inf_inf i (by omega), cs, Bool.xor_false]
  have up : 0 < U 23 2139095040 := U_pos (by omega)
  have pos {d : Nat} (h : rg d ≠ 0) : 0 < U 23 (rg d) := U_pos (by omega)
  by_cases i : rg c = 2139095040 ∨ rg a = 2139095040
  · obtain ⟨e, z⟩ := key ha hx i
    rw [e, W_pk (by omega)] at w1 ⊢
    cases hs : sg a
    · simp only [Bool.false_eq_true, if_false]
      have hi : rg c = 2139095040 ∨ rg b = 2139095040 := by
        rcases i with i | i
        · exact .inl i
        · right
          rw [W_inf i, hs] at hl
          simp only [Bool.false_eq_true, if_false] at hl
          rcases Nat.lt_or_ge (rg b) 2139095040 with j | j
          · have := W_fin j; omega
          · omega
      obtain ⟨e', z'⟩ := key hb hy hi
      have := pos z
      have := pos z'
      have hsb : sg b = false := by
        cases h : sg b
        · rfl
        · unfold W at hl
          simp only [h, hs, Bool.false_eq_true, if_false, if_true] at hl
          omega
      rw [e', W_pk (by omega), hsb]
      simp
    · simp only [if_true]; omega
  · by_cases j : rg b = 2139095040
    · obtain ⟨e, z⟩ := key hb hy (.inr j)
      rw [e, W_pk (by omega)] at w2 ⊢
      cases hs : sg b
      · simp only [Bool.false_eq_true, if_false]; omega
      · have := W_fin (a := a) (by omega)
        rw [W_inf j, hs] at hl
        simp only [if_true] at hl
        omega
    · have a1 : rg a < 2139095040 := by omega
      have b1 : rg b < 2139095040 := by omega
      have c1 : rg c < 2139095040 := by omega
      have iA := fmul_fin a1 c1
      have iB := fmul_fin b1 c1
      rw [cs, Bool.xor_false] at iA iB
      obtain ⟨R, g, e⟩ := W_is iA
      obtain ⟨S, g', e'⟩ := W_is iB
      have g := near_iff.2 g
      have g' := near_iff.2 g'
      have hq := Nat.two_pow_pos 149
      have m1 : U 23 (rg a) ≤ U 23 (rg b) → R ≤ S := fun h => g.mono g' hq hq (Nat.mul_le_mul_right _ (Nat.mul_le_mul_right _ h))
      have m2 : U 23 (rg b) ≤ U 23 (rg a) → S ≤ R := fun h => g'.mono g hq hq (Nat.mul_le_mul_right _ (Nat.mul_le_mul_right _ h))
      have m3 : U 23 (rg a) = 0 → R = 0 := fun h => by
        rw [h, Nat.zero_mul] at g
        exact g.unique (Near.self 23 0) hq (by omega) (by rw [U_zero, Nat.zero_mul])
      have m4 : U 23 (rg b) = 0 → S = 0 := fun h => by
        rw [h, Nat.zero_mul] at g'
        exact g'.unique (Near.self 23 0) hq (by omega) (by rw [U_zero, Nat.zero_mul])
      rw [e, e']
      unfold W at hl
      have uz := U_zero 23
      cases h1 : sg a <;> cases h2 : sg b <;> simp only [h1, h2, Bool.false_eq_true, if_false, if_true] at hl ⊢
      · have := U_le (f := 23) (m1 (by omega)); omega
      · rw [m3 (by omega), m4 (by omega), uz]; omega
      · omega
      · have := U_le (f := 23) (m2 (by omega)); omega

theorem cs_le {X Y : Nat} (M : Nat) (h : X ≤ Y) : (cs X M = .lt → cs Y M = .lt) ∧ (cs X M = .eq → cs Y M ≠ .gt) := by
  unfold cs
  rw [Nat.compare_eq_lt, Nat.compare_eq_lt, Nat.compare_eq_eq, ne_eq, Nat.compare_eq_gt]
  omega
theorem fsqrt_keeps {a b : Nat} (ha : rg a ≤ 2139095040) (hb : rg b ≤ 2139095040) (hl : W a ≤ W b)
    (hx : rg (fsqrt a) ≤ 2139095040) (hy : rg (fsqrt b) ≤ 2139095040) : W (fsqrt a) ≤ W (fsqrt b) := by
  have nan_big : ¬ rg (res none) ≤ 2139095040 := by decide
  have up : 0 < U 23 2139095040 := U_pos (by omega)
  have uz := U_zero 23
  have w1 := W_top _ hx
  have pos {d : Nat} (h : rg d ≠ 0) : 0 < U 23 (rg d) := U_pos (by omega)
  -- the kinds of roots
  have kind {d : Nat} (hd : rg d ≤ 2139095040) (h : rg (fsqrt d) ≤ 2139095040) : (rg d = 0 ∧ W (fsqrt d) = 0) ∨ (sg d = false ∧ rg d = 2139095040 ∧ W (fsqrt d) = (U 23 2139095040 : Int)) ∨
      (sg d = false ∧ rg d ≠ 0 ∧ rg d < 2139095040 ∧ ∃ R, NearC 23 R (cs (U 23 (rg d) * 2 ^ 149)) ∧ W (fsqrt d) = (min (U 23 R) (U 23 2139095040) : Int)) := by
    by_cases z : rg d = 0
    · left
      refine ⟨z, ?_⟩
      rw [fsqrt_of (fsqrt_zero z)]
      show W (pk (sg d) 0) = 0
      rw [W_pk (by omega), uz]
      split <;> rfl
    · right
      rcases Nat.lt_or_ge (rg d) 2139095040 with i | i
      · right
        cases s : sg d
        · obtain ⟨R, g, e⟩ := W_is (fsqrt_fin i z s)
          exact ⟨rfl, z, i, R, g, e⟩
        · rw [fsqrt_of (fsqrt_neg i z s)] at h
          exact absurd h nan_big
      · left
        have i : rg d = 2139095040 := by omega
        have e := fsqrt_of (fsqrt_inf i)
        cases s : sg d
        · rw [s] at e
          refine ⟨rfl, i, ?_⟩
          rw [e]
          show W 2139095040 = _
          exact (W_pk (s := false) (r := 2139095040) (by omega)).trans rfl
        · rw [s] at e
          rw [e] at h
          exact absurd h nan_big
  rcases kind ha hx with ⟨z, e⟩ | ⟨s, i, e⟩ | ⟨s, z, i, R, g, e⟩
  · rw [e]
    rcases kind hb hy with ⟨z', e'⟩ | ⟨s', i', e'⟩ | ⟨s', z', i', R', g', e'⟩ <;> rw [e'] <;> omega
  · have := W_inf i
    rw [s] at this
    simp only [Bool.false_eq_true, if_false] at this
    have j : rg b = 2139095040 := by
      rcases Nat.lt_or_ge (rg b) 2139095040 with j | j
      · have := W_fin j; omega
      · omega
    rcases kind hb hy with ⟨z', e'⟩ | ⟨s', i', e'⟩ | ⟨s', z', i', R', g', e'⟩
    · omega
    · rw [e, e']; omega
    · omega
  · have := pos z
    have wa : W a = (U 23 (rg a) : Int) := by unfold W; rw [s]; rfl
    rcases kind hb hy with ⟨z', e'⟩ | ⟨s', i', e'⟩ | ⟨s', z', i', R', g', e'⟩
    · have wb : W b = 0 := by unfold W; rw [z', uz]; split <;> rfl
      omega
    · rw [e']; omega
    · have wb : W b = (U 23 (rg b) : Int) := by unfold W; rw [s']; rfl
      have hle : U 23 (rg a) ≤ U 23 (rg b) := by omega
      have hm : U 23 (rg a) * 2 ^ 149 ≤ U 23 (rg b) * 2 ^ 149 := Nat.mul_le_mul_right _ hle
      have : R ≤ R' := by
        exact g.mono g' (sane_cs _) (fun M => (cs_le M hm).1) (fun M => (cs_le M hm).2)
      have := U_le (f := 23) this
      rw [e, e']
      omega
end Lathe

namespace Lathe
open Ieee
theorem rep_V (a : Nat) : rep (V a) := ⟨rg a, by unfold V; split <;> omega⟩
theorem fadd_RN {a b : Nat} (ha : rg a < 2139095040) (hb : rg b < 2139095040) (hz : rg (fadd a b) < 2139095040) : RN (V a + V b) (V (fadd a b)) := by
  obtain ⟨h, hs⟩ := (fadd_fin ha hb).fin hz
  have h := near_iff.2 h
  refine ⟨rg (fadd a b), h, ?_⟩
  by_cases z : V a + V b = 0
  · rw [z] at h
    have e : rg (fadd a b) = 0 := h.unique (Near.self 23 0) (by omega) (by omega) (by rw [U_zero]; rfl)
    rw [V_zero_rg.2 e, e, U_zero, z]
    rfl
  · rw [if_neg z] at hs
    generalize fadd a b = x at *
    unfold V at hs ⊢
    rw [hs]
    simp only [decide_eq_true_eq]
theorem fsub_RN {a b : Nat} (ha : rg a < 2139095040) (hb : rg b < 2139095040) (h : b < 4294967296) (hz : rg (fsub a b) < 2139095040) : RN (V a - V b) (V (fsub a b)) := by
  rw [fsub_flip h] at hz ⊢
  have := fadd_RN ha (by rw [rg_flip h]; exact hb) hz
  rw [V_flip h] at this
  exact this
/-- No finite answer out of what is not finite. -/
theorem fadd_big {a b : Nat} (h : 2139095040 ≤ rg a ∨ 2139095040 ≤ rg b) : 2139095040 ≤ rg (fadd a b) := by
  have hN : 2139095040 ≤ rg 2143289344 := by decide
  have hI (s : Bool) : 2139095040 ≤ rg (pk s 2139095040) := by rw [rg_pk (by omega)]; omega
  by_cases n : 2139095040 < rg a ∨ 2139095040 < rg b
  · rw [fadd_nan n]; exact hN
  · rcases Nat.lt_or_ge (rg a) 2139095040 with c | c
    · rw [fadd_fin_inf c (by omega)]; exact hI _
    · rcases Nat.lt_or_ge (rg b) 2139095040 with d | d
      · rw [fadd_inf_fin (by omega) d]; exact hI _
      · rw [fadd_inf_inf (by omega) (by omega)]
        split
        · exact hI _
        · exact hN
theorem fsub_big {a b : Nat} (hb : b < 4294967296) (h : 2139095040 ≤ rg a ∨ 2139095040 ≤ rg b) : 2139095040 ≤ rg (fsub a b) := by
  rw [fsub_flip hb]
  exact fadd_big (by rw [rg_flip hb]; exact h)
/-- Six operations on patterns. -/
theorem fknuth {a b : Nat} (ha : rg a < 2139095040) (hb : rg b < 2139095040) (a0 : a < 4294967296) (sub_lt : ∀ x y, fsub x y < 4294967296) (hs : rg (fadd a b) < 2139095040)
    (ht : rg (fsub (fadd a b) a) < 2139095040)
    (he : rg (fadd (fsub a (fsub (fadd a b) (fsub (fadd a b) a))) (fsub b (fsub (fadd a b) a))) < 2139095040) :
    V a + V b = V (fadd a b) + V (fadd (fsub a (fsub (fadd a b) (fsub (fadd a b) a))) (fsub b (fsub (fadd a b) a))) := by
  have rs := fadd_RN ha hb hs
  have rt := fsub_RN hs ha a0 ht
  generalize fadd a b = s at *
  have t0 := sub_lt s a
  generalize fsub s a = t at *
  have p0 := sub_lt s t
  have hd : rg (fsub a (fsub s t)) < 2139095040 := by
    rcases Nat.lt_or_ge (rg (fsub a (fsub s t))) 2139095040 with c | c
    · exact c
    · have := fadd_big (b := fsub b t) (.inl c); omega
  have hd' : rg (fsub b t) < 2139095040 := by
    rcases Nat.lt_or_ge (rg (fsub b t)) 2139095040 with c | c
    · exact c
    · have := fadd_big (a := fsub a (fsub s t)) (.inr c); omega
  have hp : rg (fsub s t) < 2139095040 := by
    rcases Nat.lt_or_ge (rg (fsub s t)) 2139095040 with c | c
    · exact c
    · have := fsub_big (a := a) p0 (.inr c); omega
  exact knuth (rep_V a) (rep_V b) rs rt (fsub_RN hs ht t0 hp) (fsub_RN ha hp p0 hd) (fsub_RN hb ht t0 hd') (fadd_RN hd hd' he)

theorem mul_neg_iff {S P : Int} (hP : 0 < P) : S * P < 0 ↔ S < 0 := by
  constructor
  · intro h
    rcases Int.lt_or_le S 0 with n | n
    · exact n
    · have := Int.mul_nonneg n (Int.le_of_lt hP); omega
  · exact fun h => Int.mul_neg_of_neg_of_pos h hP
/-- A sum held against the digits of its parts at a place. -/
theorem sum_even {a b L : Nat} {S : Int} (ha : rg a < 2139095040) (hb : rg b < 2139095040) (hz : rg (fadd a b) < 2139095040) (hS : S * 2 ^ L = V a + V b) :
    (kk (fadd a b) < L → M (fadd a b) = S * 2 ^ (L - kk (fadd a b))) ∧
    (L ≤ kk (fadd a b) → 2 * (S - M (fadd a b) * 2 ^ (kk (fadd a b) - L)).natAbs ≤ 2 ^ (kk (fadd a b) - L) ∧ (2 * (S - M (fadd a b) * 2 ^ (kk (fadd a b) - L)).natAbs = 2 ^ (kk (fadd a b) - L) → M (fadd a b) % 2 = 0)) := by
  obtain ⟨t1, t2, t3, t4⟩ := add_near ha hb hz
  rw [← hS] at t1 t2 t3 t4
  generalize fadd a b = z at *
  have hP := Nat.two_pow_pos L
  have e1 : (S * 2 ^ L).natAbs = S.natAbs * 2 ^ L := by rw [pow_cast]; exact natAbs_mul_pow S L
  have e2 : S ≠ 0 → (sg z = decide (S < 0)) := fun h => by
    rw [t4 (Int.mul_ne_zero h (by rw [pow_cast]; omega)), decide_eq_decide]
    rw [pow_cast]
    have hP' : (0 : Int) < ((2 ^ L : Nat) : Int) := by omega
    exact mul_neg_iff hP'
  rw [e1] at t1 t2 t3
  constructor
  · intro h
    have hK := Nat.two_pow_pos (kk z)
    have e3 : S.natAbs * 2 ^ L = S.natAbs * 2 ^ (L - kk z) * 2 ^ kk z := by
      rw [Nat.mul_assoc, ← Nat.pow_add]; congr 2; omega
    rw [e3] at t1 t2
    have e4 : (S * 2 ^ (L - kk z)).natAbs = S.natAbs * 2 ^ (L - kk z) := by rw [pow_cast]; exact natAbs_mul_pow S _
    have s1 : 2 * mg z ≤ 2 * (S.natAbs * 2 ^ (L - kk z)) + 1 := Nat.le_of_mul_le_mul_right (c := 2 ^ kk z) (by rw [Nat.add_mul, Nat.one_mul, Nat.mul_assoc 2, Nat.mul_assoc 2]; exact t1) hK
    have s2 : 2 * (S.natAbs * 2 ^ (L - kk z)) ≤ 2 * mg z + 1 := Nat.le_of_mul_le_mul_right (c := 2 ^ kk z) (by rw [Nat.add_mul, Nat.one_mul, Nat.mul_assoc 2, Nat.mul_assoc 2]; exact t2) hK
    rw [← e4] at s1 s2
    have hneg : S ≠ 0 → (S * 2 ^ (L - kk z) < 0 ↔ S < 0) := fun _ => by
      rw [pow_cast]
      have hP' : (0 : Int) < ((2 ^ (L - kk z) : Nat) : Int) := by have := Nat.two_pow_pos (L - kk z); omega
      exact mul_neg_iff hP'
    by_cases z0 : S = 0
    · subst z0
      rw [Int.zero_mul] at s1 s2 ⊢
      unfold M
      split <;> omega
    · have e2 := e2 z0
      have hneg := hneg z0
      generalize S * 2 ^ (L - kk z) = X at *
      unfold M
      rw [e2]
      by_cases n : S < 0
      · rw [decide_eq_true n, if_pos rfl]; omega
      · rw [decide_eq_false n]; simp only [Bool.false_eq_true, if_false]; omega
  · intro h
    have e3 : 2 ^ kk z = 2 ^ (kk z - L) * 2 ^ L := by
      rw [← Nat.pow_add]; congr 1; omega
    have e5 : mg z * 2 ^ kk z = mg z * 2 ^ (kk z - L) * 2 ^ L := by rw [e3, Nat.mul_assoc]
    rw [e5, e3] at t1 t2 t3
    have e4 : M z * 2 ^ (kk z - L) = if sg z then -((mg z * 2 ^ (kk z - L) : Nat) : Int) else ((mg z * 2 ^ (kk z - L) : Nat) : Int) := by
      unfold M
      rw [pow_cast, Int.natCast_mul]
      split
      · rw [Int.neg_mul]
      · rfl
    have hpar : mg z % 2 = 0 → M z % 2 = 0 := by unfold M; split <;> omega
    rw [e4]
    generalize mg z * 2 ^ (kk z - L) = Y at *
    generalize 2 ^ (kk z - L) = D at *
    generalize 2 ^ L = P at *
    have s1 : 2 * Y ≤ 2 * S.natAbs + D := Nat.le_of_mul_le_mul_right (c := P) (by rw [Nat.add_mul, Nat.mul_assoc 2, Nat.mul_assoc 2]; exact t1) hP
    have s2 : 2 * S.natAbs ≤ 2 * Y + D := Nat.le_of_mul_le_mul_right (c := P) (by rw [Nat.add_mul, Nat.mul_assoc 2, Nat.mul_assoc 2]; exact t2) hP
    have abs : (S - if sg z = true then -(Y : Int) else (Y : Int)).natAbs = S.natAbs - Y + (Y - S.natAbs) := by
      by_cases z0 : S = 0
      · subst z0; split <;> omega
      · have e2 := e2 z0
        rw [e2]
        by_cases n : S < 0
        · rw [decide_eq_true n, if_pos rfl]; omega
        · rw [decide_eq_false n]; simp only [Bool.false_eq_true, if_false]; omega
    rw [abs]
    refine ⟨by omega, fun e => hpar (t3 ?_)⟩
    have : 2 * Y = 2 * S.natAbs + D ∨ 2 * S.natAbs = 2 * Y + D := by omega
    rcases this with e | e
    · left
      rw [← Nat.mul_assoc, ← Nat.mul_assoc, ← Nat.add_mul, e]
    · right
      rw [← Nat.mul_assoc, ← Nat.mul_assoc, ← Nat.add_mul, e]

/-- A root's place and digits. -/
theorem sqrt_near {a s : Nat} (ha : rg a < 2139095040) (h0 : rg a ≠ 0) (hs : sg a = false) (hz : rg (fsqrt a) < 2139095040) (hd : s + 2 * kk (fsqrt a) = kk a + 151) (hn : s ≤ 36) :
    sg (fsqrt a) = false ∧ 8388608 ≤ mg (fsqrt a) ∧ (2 * mg (fsqrt a) - 1) * (2 * mg (fsqrt a) - 1) < mg a * 2 ^ s ∧ mg a * 2 ^ s < (2 * mg (fsqrt a) + 1) * (2 * mg (fsqrt a) + 1) := by
  obtain ⟨h, hsg⟩ := (fsqrt_fin ha h0 hs).fin hz
  have hma := mg_lt a
  generalize fsqrt a = z at *
  have hk : 0 < kk z := by omega
  have hm : 8388608 ≤ mg z := by rcases mg_ge z with h | h <;> omega
  have hm2 := mg_lt z
  refine ⟨hsg, hm, ?_⟩
  have hr := rg_form z
  have u0 : U 23 (kk z * 8388608 + mg z) = mg z * 2 ^ kk z := U_form 23 (kk z) (mg z) (Nat.le_of_lt hm2) (.inr hm)
  have u1 : U 23 (kk z * 8388608 + mg z + 1) = (mg z + 1) * 2 ^ kk z := U_succ 23 (kk z) (mg z) hm2 (.inr hm)
  have ehi : hi 23 (rg z) = (2 * mg z + 1) * 2 ^ kk z := by
    rw [hr]; unfold hi
    show U 23 (kk z * 8388608 + mg z) + U 23 (kk z * 8388608 + mg z + 1) = _
    rw [u0, u1]; grind
  have elo : (2 * mg z - 1) * 2 ^ kk z ≤ lo 23 (rg z) := by
    rw [hr]; unfold lo
    show _ ≤ U 23 (kk z * 8388608 + mg z - 1) + U 23 (kk z * 8388608 + mg z)
    rw [u0]
    have : (mg z - 1) * 2 ^ kk z ≤ U 23 (kk z * 8388608 + mg z - 1) := by
      by_cases b : mg z = 8388608
      · obtain ⟨j, hj⟩ : ∃ j, kk z = j + 1 := ⟨kk z - 1, by omega⟩
        have v : U 23 (j * 8388608 + 16777215) = 16777215 * 2 ^ j := U_form 23 j _ (by omega) (by omega)
        rw [b, hj, show (j + 1) * 8388608 + 8388608 - 1 = j * 8388608 + 16777215 by omega, v, Nat.pow_succ]
        omega
      · have v : U 23 (kk z * 8388608 + (mg z - 1)) = (mg z - 1) * 2 ^ kk z := U_form 23 (kk z) _ (by omega) (by omega)
        rw [show kk z * 8388608 + mg z - 1 = kk z * 8388608 + (mg z - 1) by omega, v]
        exact Nat.le_refl _
    have e : (2 * mg z - 1) * 2 ^ kk z = (mg z - 1) * 2 ^ kk z + mg z * 2 ^ kk z := by rw [← Nat.add_mul]; congr 1; omega
    omega
  have hne : rg z ≠ 0 := by omega
  unfold NearC cs at h
  rw [Nat.compare_eq_lt, Nat.compare_eq_eq, Nat.compare_eq_gt, Nat.compare_eq_eq, ehi] at h
  have hl : (2 * mg z - 1) * 2 ^ kk z * ((2 * mg z - 1) * 2 ^ kk z) ≤ 4 * (U 23 (rg a) * 2 ^ 149) := by
    have := Nat.mul_le_mul elo elo
    omega
  have hh : 4 * (U 23 (rg a) * 2 ^ 149) ≤ (2 * mg z + 1) * 2 ^ kk z * ((2 * mg z + 1) * 2 ^ kk z) := by omega
  have e4 : 4 * (U 23 (rg a) * 2 ^ 149) = mg a * 2 ^ s * (2 ^ kk z * 2 ^ kk z) := by
    rw [U_mg, Nat.mul_assoc (mg a), Nat.mul_assoc (mg a), ← Nat.pow_add, ← Nat.pow_add, ← Nat.pow_add, Nat.mul_left_comm, show (4 : Nat) = 2 ^ 2 from rfl, ← Nat.pow_add]
    congr 2; omega
  have sq (x : Nat) : x * 2 ^ kk z * (x * 2 ^ kk z) = x * x * (2 ^ kk z * 2 ^ kk z) := by grind
  have hQ : 0 < 2 ^ kk z * 2 ^ kk z := Nat.mul_pos (Nat.two_pow_pos _) (Nat.two_pow_pos _)
  rw [e4, sq] at hl hh
  have l1 := Nat.le_of_mul_le_mul_right hl hQ
  have l2 := Nat.le_of_mul_le_mul_right hh hQ
  have b1 : 16777215 * 16777215 ≤ (2 * mg z - 1) * (2 * mg z - 1) := Nat.mul_le_mul (by omega) (by omega)
  have b2 : 16777215 * 16777215 ≤ (2 * mg z + 1) * (2 * mg z + 1) := Nat.mul_le_mul (by omega) (by omega)
  have hs0 : s ≠ 0 := by
    intro h
    rw [h, Nat.pow_zero, Nat.mul_one] at l1
    omega
  have ev : (mg a * 2 ^ s) % 2 = 0 := by
    obtain ⟨t, rfl⟩ : ∃ t, s = t + 1 := ⟨s - 1, by omega⟩
    rw [Nat.pow_succ, ← Nat.mul_assoc, Nat.mul_mod_left]
  have o1 : ((2 * mg z - 1) * (2 * mg z - 1)) % 2 = 1 := by
    rw [Nat.mul_mod, show (2 * mg z - 1) % 2 = 1 by omega]
  have o2 : ((2 * mg z + 1) * (2 * mg z + 1)) % 2 = 1 := by
    rw [Nat.mul_mod, show (2 * mg z + 1) % 2 = 1 by omega]
  constructor <;> omega
end Lathe
