/- What a polynomial schedule does as the step grows. No condition. -/
import Derived.Test.YtmfladkimmnccaaDoorSwb
set_option linter.unusedVariables false
set_option linter.unusedSimpArgs false
namespace Go.Proofs.YtmfladkimmnccaaDoor.Swd
open Lathe Go.Proofs.YtmfladkimmnccaaDoor.Rlc Go.Proofs.YtmfladkimmnccaaDoor.Swv Go.Proofs.YtmfladkimmnccaaDoor.Swb

theorem fdiv_lt (a b : Nat) : fdiv a b < 4294967296 := res_lt
theorem fint_lt (n : Int) : fint n < 4294967296 := write_lt _
theorem cq_le {X Y q : Nat} (h : X ≤ Y) : (∀ M, cq X q M = .lt → cq Y q M = .lt) ∧ (∀ M, cq X q M = .eq → cq Y q M ≠ .gt) := by
  constructor
  · intro M
    unfold cq
    rw [Nat.compare_eq_lt, Nat.compare_eq_lt]
    omega
  · intro M
    unfold cq
    rw [Nat.compare_eq_eq, ne_eq, Nat.compare_eq_gt]
    omega
/-- Whole numbers from 0 on: their numbers rise. -/
theorem fint_pos {n : Int} (h : 0 ≤ n) : ∃ R, NearC 23 R (cq (n.natAbs * 2 ^ 149) 1) ∧ fint n = min R 2139095040 := by
  obtain ⟨R, g, e⟩ := fint_is n
  refine ⟨R, g, ?_⟩
  rw [e, decide_eq_false (by omega)]
  rfl
theorem fint_mono {m n : Int} (h0 : 0 ≤ m) (h : m ≤ n) : fint m ≤ fint n := by
  obtain ⟨R, g, e⟩ := fint_pos h0
  obtain ⟨S, g', e'⟩ := fint_pos (n := n) (by omega)
  have hle : m.natAbs * 2 ^ 149 ≤ n.natAbs * 2 ^ 149 := Nat.mul_le_mul_right _ (by omega)
  have := g.mono g' (sane_cq _ _ (by decide)) (cq_le hle).1 (cq_le hle).2
  omega
theorem fint_top : fint 2147483647 = 1325400064 := by decide +kernel
theorem fint_one : fint 1 = 1065353216 := by decide +kernel
theorem fint_zero : fint 0 = 0 := by decide +kernel
/-- A number of 0 or more, below infinity, with no sign. -/
structure Pos (a : Nat) : Prop where
  lt : a < 2139095040
theorem Pos.rg {a : Nat} (h : Pos a) : Lathe.rg a = a := Nat.mod_eq_of_lt (by have := h.lt; omega)
theorem Pos.sg {a : Nat} (h : Pos a) : Lathe.sg a = false := by
  unfold Lathe.sg
  rw [Nat.div_eq_of_lt (by have := h.lt; omega)]
  rfl
theorem Pos.W {a : Nat} (h : Pos a) : Lathe.W a = (U 23 a : Int) := by
  unfold Lathe.W
  rw [h.sg, h.rg]
  rfl
theorem Pos.fin {a : Nat} (h : Pos a) : Lathe.rg a < 2139095040 := by rw [h.rg]; exact h.lt
theorem Pos.le {a b : Nat} (ha : Pos a) (hb : Pos b) : Lathe.W a ≤ Lathe.W b ↔ a ≤ b := by
  rw [ha.W, hb.W]
  have := U_le_iff (f := 23) (r := a) (s := b)
  omega
theorem fint_p {n : Int} (h0 : 0 ≤ n) (h : n ≤ 2147483647) : Pos (fint n) := by
  have := fint_mono h0 h
  rw [fint_top] at this
  exact ⟨by omega⟩
/-- The product of two such, the greater one at most 1. -/
theorem mul_of {a b : Nat} (ha : Pos a) (hb : Pos b) : ∃ R, NearC 23 R (cq (U 23 a * U 23 b) (2 ^ 149)) ∧ fmul a b = min R 2139095040 := by
  obtain ⟨R, g, e⟩ := fmul_fin ha.fin hb.fin
  rw [ha.rg, hb.rg] at g
  rw [ha.sg, hb.sg] at e
  exact ⟨R, g, e⟩
theorem mul_mono {a b c d : Nat} (ha : Pos a) (hb : Pos b) (hc : Pos c) (hd : Pos d) (h1 : a ≤ c) (h2 : b ≤ d) : fmul a b ≤ fmul c d := by
  obtain ⟨R, g, e⟩ := mul_of ha hb
  obtain ⟨S, g', e'⟩ := mul_of hc hd
  have hle : U 23 a * U 23 b ≤ U 23 c * U 23 d := Nat.mul_le_mul (U_le h1) (U_le h2)
  have := g.mono g' (sane_cq _ _ (Nat.two_pow_pos 149)) (cq_le hle).1 (cq_le hle).2
  omega
/-- From 0 to 1. -/
def Unit (a : Nat) : Prop := a ≤ 1065353216
theorem Unit.pos {a : Nat} (h : Unit a) : Pos a := ⟨by unfold Unit at h; omega⟩
theorem one_one : fmul 1065353216 1065353216 = 1065353216 := by decide +kernel
theorem mul_unit {a b : Nat} (ha : Unit a) (hb : Unit b) : Unit (fmul a b) := by
  have h1 : Pos 1065353216 := ⟨by decide⟩
  have := mul_mono ha.pos hb.pos h1 h1 ha hb
  rw [one_one] at this
  exact this
theorem powL_mono (n : Nat) : ∀ j x y r s, Unit x → Unit y → Unit r → Unit s → x ≤ y → r ≤ s → powL x n j r ≤ powL y n j s ∧ Unit (powL x n j r) ∧ Unit (powL y n j s) := by
  intro j
  induction j with
  | zero => intro x y r s hx hy hr hs h1 h2; exact ⟨h2, hr, hs⟩
  | succ j ih =>
    intro x y r s hx hy hr hs h1 h2
    unfold powL
    have m := mul_mono hr.pos hr.pos hs.pos hs.pos h2 h2
    have u1 := mul_unit hr hr
    have u2 := mul_unit hs hs
    by_cases c : n / 2 ^ j % 2 = 1
    · rw [if_pos c, if_pos c]
      exact ih _ _ _ _ hx hy (mul_unit u1 hx) (mul_unit u2 hy) h1 (mul_mono u1.pos hx.pos u2.pos hy.pos m h1)
    · rw [if_neg c, if_neg c]
      exact ih _ _ _ _ hx hy u1 u2 h1 m
theorem tl_unit {x : Nat} (h : Unit x) : tl x = x := tl_num (by have := h.pos.fin; omega)
theorem fpow_mono {x y : Nat} (n : Int) (hx : Unit x) (hy : Unit y) (h : x ≤ y) : fpow x n ≤ fpow y n ∧ Unit (fpow x n) ∧ Unit (fpow y n) := by
  unfold fpow
  by_cases c : n < 1
  · rw [if_pos c, if_pos c]
    exact ⟨Nat.le_refl _, Nat.le_refl _, Nat.le_refl _⟩
  · rw [if_neg c, if_neg c, tl_unit hx, tl_unit hy]
    exact powL_mono _ _ _ _ _ _ hx hy hx hy h h
theorem powL_one (n : Nat) : ∀ j, powL 1065353216 n j 1065353216 = 1065353216 := by
  intro j
  induction j with
  | zero => rfl
  | succ j ih =>
    unfold powL
    rw [one_one, one_one]
    split <;> exact ih
theorem fpow_one (n : Int) : fpow 1065353216 n = 1065353216 := by
  unfold fpow
  split
  · rfl
  · rw [tl_unit (Nat.le_refl _)]
    exact powL_one _ _
theorem zz : fmul 0 0 = 0 := by decide +kernel
theorem powL_zero (n : Nat) : ∀ j, powL 0 n j 0 = 0 := by
  intro j
  induction j with
  | zero => rfl
  | succ j ih =>
    unfold powL
    rw [zz, zz]
    split <;> exact ih
theorem fpow_zero {n : Int} (h : 1 ≤ n) : fpow 0 n = 0 := by
  unfold fpow
  rw [if_neg (by omega), show tl 0 = 0 by decide +kernel]
  exact powL_zero _ _
/-- Quotients of two such. -/
theorem div_of {a b : Nat} (ha : Pos a) (hb : Pos b) (h0 : b ≠ 0) : ∃ R, NearC 23 R (cq (U 23 a * 2 ^ 149) (U 23 b)) ∧ fdiv a b = min R 2139095040 := by
  obtain ⟨R, g, e⟩ := fdiv_fin ha.fin hb.fin (by rw [hb.rg]; exact h0)
  rw [ha.rg, hb.rg] at g
  rw [ha.sg, hb.sg] at e
  exact ⟨R, g, e⟩
theorem div_mono {a b c : Nat} (ha : Pos a) (hb : Pos b) (hc : Pos c) (h0 : c ≠ 0) (h : a ≤ b) : fdiv a c ≤ fdiv b c := by
  obtain ⟨R, g, e⟩ := div_of ha hc h0
  obtain ⟨S, g', e'⟩ := div_of hb hc h0
  have hle : U 23 a * 2 ^ 149 ≤ U 23 b * 2 ^ 149 := Nat.mul_le_mul_right _ (U_le h)
  have := g.mono g' (sane_cq _ _ (U_pos (by omega))) (cq_le hle).1 (cq_le hle).2
  omega
theorem div_self {a : Nat} (ha : Pos a) (h0 : a ≠ 0) : fdiv a a = 1065353216 := by
  obtain ⟨R, g, e⟩ := div_of ha ha h0
  obtain ⟨S, g', e'⟩ := div_of (a := 1065353216) (b := 1065353216) ⟨by decide⟩ ⟨by decide⟩ (by decide)
  have h1 : fdiv 1065353216 1065353216 = 1065353216 := by decide +kernel
  have up := U_pos (f := 23) (r := a) (by omega)
  have conv : ∀ M, cq (U 23 a * 2 ^ 149) (U 23 a) M = cq (U 23 1065353216 * 2 ^ 149) (U 23 1065353216) M := by
    have gen : ∀ u, 0 < u → ∀ M, cq (u * 2 ^ 149) u M = compare M (2 * 2 ^ 149) := by
      intro u hu M
      unfold cq
      rw [show 2 * (u * 2 ^ 149) = (2 * 2 ^ 149) * u by rw [Nat.mul_comm u, ← Nat.mul_assoc]]
      rcases Nat.lt_trichotomy M (2 * 2 ^ 149) with c | c | c
      · rw [Nat.compare_eq_lt.2 c, Nat.compare_eq_lt.2 (Nat.mul_lt_mul_of_pos_right c hu)]
      · rw [Nat.compare_eq_eq.2 c, c, Nat.compare_eq_eq.2 rfl]
      · rw [Nat.compare_eq_gt.2 c, Nat.compare_eq_gt.2 (Nat.mul_lt_mul_of_pos_right c hu)]
    intro M
    rw [gen _ up, gen _ (U_pos (by decide))]
  have hRS : R = S := by
    refine Nat.le_antisymm (g.mono g' (sane_cq _ _ up) (fun M h => by rw [← conv]; exact h) (fun M h => by rw [← conv, h]; decide)) (g'.mono g (sane_cq _ _ (U_pos (by decide))) (fun M h => by rw [conv]; exact h) (fun M h => by rw [conv, h]; decide))
  rw [e, hRS, ← e', h1]
theorem div_zero {a : Nat} (ha : Pos a) (h0 : a ≠ 0) : fdiv 0 a = 0 := by
  obtain ⟨R, g, e⟩ := div_of (a := 0) ⟨by decide⟩ ha h0
  obtain ⟨S, g', e'⟩ := div_of (a := 0) (b := 1065353216) ⟨by decide⟩ ⟨by decide⟩ (by decide)
  have h1 : fdiv 0 1065353216 = 0 := by decide +kernel
  have up := U_pos (f := 23) (r := a) (by omega)
  rw [U_zero, Nat.zero_mul] at g g'
  have conv : ∀ u, 0 < u → ∀ M, cq 0 u M = if M = 0 then .eq else .gt := by
    intro u hu M
    unfold cq
    by_cases c : M = 0
    · rw [if_pos c, c]; exact Nat.compare_eq_eq.2 (by omega)
    · rw [if_neg c]; exact Nat.compare_eq_gt.2 (by have := Nat.mul_pos (Nat.pos_of_ne_zero c) hu; omega)
  have u1 : 0 < U 23 1065353216 := U_pos (by decide)
  have hRS : R = S := by
    refine Nat.le_antisymm (g.mono g' (sane_cq _ _ up) (fun M h => by rw [conv _ u1, ← conv _ up]; exact h) (fun M h => by rw [conv _ u1, ← conv _ up, h]; decide)) (g'.mono g (sane_cq _ _ u1) (fun M h => by rw [conv _ up, ← conv _ u1]; exact h) (fun M h => by rw [conv _ up, ← conv _ u1, h]; decide))
  rw [e, hRS, ← e', h1]
end Go.Proofs.YtmfladkimmnccaaDoor.Swd
