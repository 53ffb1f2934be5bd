/- Binary32: rungs, the nearest one, sums, products, quotients, roots; what the machine does at them, what is told. No condition. -/
import Derived.Laws.FloatArith
import Derived.Deep.Draws
import Derived.WalkKit
import Derived.WalkLawsBesides

namespace Lathe
open Go Ieee

/-- The pattern that is told of a float's bits: of every NaN the one. -/
def tl (x : Nat) : Nat := if single.order x x = some .eq then x else 2143289344

/-- The pattern of an operation's answer. -/
def res (o : Option Nat) : Nat := o.getD 2143289344

def fadd (a b : Nat) : Nat := res (single.add a b)
def fsub (a b : Nat) : Nat := res (single.sub a b)
def fmul (a b : Nat) : Nat := res (single.mul a b)
def fdiv (a b : Nat) : Nat := res (single.div a b)

end Lathe

namespace Lathe

/-- The number of a rung, in units of the last place of all; f: the bits of the fraction field. -/
def U (f r : Nat) : Nat := if r < 2 ^ f then r else (2 ^ f + r % 2 ^ f) * 2 ^ (r / 2 ^ f - 1)

theorem U_form (f k n : Nat) (h1 : n ≤ 2 ^ (f + 1)) (h2 : k = 0 ∨ 2 ^ f ≤ n) : U f (k * 2 ^ f + n) = n * 2 ^ k := by
  have hp : 0 < 2 ^ f := Nat.two_pow_pos f
  have e : 2 ^ (f + 1) = 2 ^ f + 2 ^ f := by rw [Nat.pow_succ]; omega
  generalize hF : 2 ^ f = F at *
  by_cases hn : n < F
  · have : k = 0 := by omega
    subst this
    simp [U, hF, hn]
  · by_cases hn2 : n < F + F
    · obtain ⟨m, rfl⟩ : ∃ m, n = F + m := ⟨n - F, by omega⟩
      have e1 : k * F + (F + m) = m + (k + 1) * F := by rw [Nat.add_mul]; omega
      have hm : m < F := by omega
      have c : ¬ (k * F + (F + m) < F) := by omega
      unfold U
      rw [hF, if_neg c, e1, Nat.add_mul_mod_self_right, Nat.mod_eq_of_lt hm, Nat.add_mul_div_right _ _ hp, Nat.div_eq_of_lt hm]
      simp
    · obtain rfl : n = F + F := by omega
      have e1 : k * F + (F + F) = 0 + (k + 2) * F := by rw [Nat.add_mul]; omega
      have c : ¬ (k * F + (F + F) < F) := by omega
      unfold U
      rw [hF, if_neg c, e1, Nat.add_mul_mod_self_right, Nat.zero_mod, Nat.add_mul_div_right _ _ hp, Nat.zero_div]
      have : 0 + (k + 2) - 1 = k + 1 := by omega
      rw [this, Nat.pow_succ]
      grind

/-- Every rung has a form. -/
theorem form (f r : Nat) : ∃ k n, r = k * 2 ^ f + n ∧ n < 2 ^ (f + 1) ∧ (k = 0 ∨ 2 ^ f ≤ n) := by
  have hp : 0 < 2 ^ f := Nat.two_pow_pos f
  have e : 2 ^ (f + 1) = 2 ^ f + 2 ^ f := by rw [Nat.pow_succ]; omega
  by_cases h : r < 2 ^ f
  · exact ⟨0, r, by omega, by omega, .inl rfl⟩
  · have h1 := Nat.div_add_mod r (2 ^ f)
    have h2 := Nat.mod_lt r hp
    have h3 : 1 ≤ r / 2 ^ f := by rw [Nat.le_div_iff_mul_le hp]; omega
    refine ⟨r / 2 ^ f - 1, 2 ^ f + r % 2 ^ f, ?_, by omega, .inr (by omega)⟩
    obtain ⟨m, hm⟩ : ∃ m, r / 2 ^ f = m + 1 := ⟨r / 2 ^ f - 1, by omega⟩
    rw [hm] at h1 ⊢
    rw [Nat.mul_add, Nat.mul_comm] at h1
    simp only [Nat.add_sub_cancel]
    omega

theorem U_succ (f k n : Nat) (h1 : n < 2 ^ (f + 1)) (h2 : k = 0 ∨ 2 ^ f ≤ n) : U f (k * 2 ^ f + n + 1) = (n + 1) * 2 ^ k := by
  rw [Nat.add_assoc]
  exact U_form f k (n + 1) (by omega) (by omega)

theorem U_lt_succ (f r : Nat) : U f r < U f (r + 1) := by
  obtain ⟨k, n, rfl, h1, h2⟩ := form f r
  rw [U_form f k n (by omega) h2, U_succ f k n h1 h2]
  exact Nat.mul_lt_mul_of_pos_right (by omega) (Nat.two_pow_pos k)

theorem U_mono {f r s : Nat} (h : r < s) : U f r < U f s := by
  induction s with
  | zero => omega
  | succ s ih =>
    by_cases e : r = s
    · subst e; exact U_lt_succ f r
    · exact Nat.lt_trans (ih (by omega)) (U_lt_succ f s)
theorem U_le {f r s : Nat} (h : r ≤ s) : U f r ≤ U f s := by
  by_cases e : r = s
  · subst e; exact Nat.le_refl _
  · exact Nat.le_of_lt (U_mono (by omega))
theorem U_inj {f r s : Nat} (h : U f r = U f s) : r = s := by
  rcases Nat.lt_trichotomy r s with c | c | c
  · have := U_mono (f := f) c; omega
  · exact c
  · have := U_mono (f := f) c; omega
theorem U_lt_iff {f r s : Nat} : U f r < U f s ↔ r < s := by
  constructor
  · intro h
    rcases Nat.lt_or_ge r s with c | c
    · exact c
    · have := U_le (f := f) c; omega
  · exact U_mono
theorem U_le_iff {f r s : Nat} : U f r ≤ U f s ↔ r ≤ s := by
  have := U_lt_iff (f := f) (r := s) (s := r)
  omega
theorem U_zero (f : Nat) : U f 0 = 0 := by simp [U, Nat.two_pow_pos]
theorem U_small {f r : Nat} (h : r ≤ 2 ^ (f + 1)) : U f r = r := by
  have := U_form f 0 r h (.inl rfl)
  simpa using this
theorem U_pos {f r : Nat} (h : 0 < r) : 0 < U f r := by
  have := U_mono (f := f) h
  rw [U_zero] at this
  exact this

/-- The place of a number that is at least so great. -/
theorem U_dvd {f r j : Nat} (h : 2 ^ (f + j) ≤ U f r) : 2 ^ j ∣ U f r := by
  obtain ⟨k, n, rfl, h1, h2⟩ := form f r
  rw [U_form f k n (by omega) h2] at h ⊢
  have hk : j ≤ k := by
    rcases Nat.lt_or_ge k j with c | c
    · exfalso
      have e1 : 2 ^ (f + j) = 2 ^ (f + 1) * 2 ^ (j - 1) := by rw [← Nat.pow_add]; congr 1; omega
      have e2 : 2 ^ k ≤ 2 ^ (j - 1) := Nat.pow_le_pow_right (by omega) (by omega)
      have : n * 2 ^ k < 2 ^ (f + 1) * 2 ^ (j - 1) := Nat.lt_of_lt_of_le (Nat.mul_lt_mul_of_pos_right h1 (Nat.two_pow_pos k)) (Nat.mul_le_mul_left _ e2)
      omega
    · exact c
  exact Nat.dvd_mul_left_of_dvd (Nat.pow_dvd_pow 2 hk) n

/-- The middle ahead of a rung, and behind it, doubled. -/
def lo (f r : Nat) : Nat := U f (r - 1) + U f r
def hi (f r : Nat) : Nat := U f r + U f (r + 1)

/-- r is the rung nearest to p / q, of two as near the even one. -/
def Near (f r p q : Nat) : Prop :=
  (r = 0 ∨ lo f r * q < 2 * p ∨ lo f r * q = 2 * p ∧ r % 2 = 0) ∧ (2 * p < hi f r * q ∨ 2 * p = hi f r * q ∧ r % 2 = 0)

theorem hi_le_lo {f r s : Nat} (h : r < s) : hi f r ≤ lo f s := by
  have h1 := U_le (f := f) (r := r) (s := s - 1) (by omega)
  have h2 := U_le (f := f) (r := r + 1) (s := s) (by omega)
  unfold hi lo
  omega
theorem hi_lt_lo {f r s : Nat} (h : r + 1 < s) : hi f r < lo f s := by
  have h1 := U_mono (f := f) (r := r) (s := s - 1) (by omega)
  have h2 := U_le (f := f) (r := r + 1) (s := s) (by omega)
  unfold hi lo
  omega

/-- The nearest rung keeps the order. -/
theorem Near.mono {f r s p q p' q' : Nat} (h : Near f r p q) (h' : Near f s p' q') (hq : 0 < q) (hq' : 0 < q') (hle : p * q' ≤ p' * q) : r ≤ s := by
  rcases Nat.lt_or_ge s r with c | c
  · exfalso
    have h1 : lo f r * q ≤ 2 * p := by rcases h.1 with h | h | h <;> omega
    have h2 : 2 * p' ≤ hi f s * q' := by rcases h'.2 with h | h <;> omega
    have a1 : lo f r * q * q' ≤ 2 * p * q' := Nat.mul_le_mul_right _ h1
    have a2 : 2 * p' * q ≤ hi f s * q' * q := Nat.mul_le_mul_right _ h2
    have a3 : lo f r * (q * q') ≤ hi f s * (q * q') := by
      have e1 : lo f r * q * q' = lo f r * (q * q') := Nat.mul_assoc ..
      have e2 : hi f s * q' * q = hi f s * (q * q') := by rw [Nat.mul_assoc, Nat.mul_comm q' q]
      have e3 : 2 * p * q' = 2 * (p * q') := Nat.mul_assoc ..
      have e4 : 2 * p' * q = 2 * (p' * q) := Nat.mul_assoc ..
      omega
    have hqq : 0 < q * q' := Nat.mul_pos hq hq'
    have a4 : lo f r ≤ hi f s := Nat.le_of_mul_le_mul_right a3 hqq
    have a5 := hi_le_lo (f := f) c
    have a6 : lo f r = hi f s := by omega
    have a7 : r = s + 1 := by
      rcases Nat.lt_or_ge (s + 1) r with d | d
      · have := hi_lt_lo (f := f) d; omega
      · omega
    -- all are equal: both are even
    have b1 : lo f r * q = 2 * p := by
      have : 2 * p * q' ≤ lo f r * q * q' := by
        have e1 : lo f r * q * q' = lo f r * (q * q') := Nat.mul_assoc ..
        have e2 : hi f s * q' * q = hi f s * (q * q') := by rw [Nat.mul_assoc, Nat.mul_comm q' q]
        have e3 : 2 * p * q' = 2 * (p * q') := Nat.mul_assoc ..
        have e4 : 2 * p' * q = 2 * (p' * q) := Nat.mul_assoc ..
        rw [a6] at e1 ⊢
        omega
      have := Nat.le_of_mul_le_mul_right this hq'
      omega
    have b2 : hi f s * q' = 2 * p' := by
      have : hi f s * q' * q ≤ 2 * p' * q := by
        have e1 : lo f r * q * q' = lo f r * (q * q') := Nat.mul_assoc ..
        have e2 : hi f s * q' * q = hi f s * (q * q') := by rw [Nat.mul_assoc, Nat.mul_comm q' q]
        have e3 : 2 * p * q' = 2 * (p * q') := Nat.mul_assoc ..
        have e4 : 2 * p' * q = 2 * (p' * q) := Nat.mul_assoc ..
        rw [a6] at e1 a1
        omega
      have := Nat.le_of_mul_le_mul_right this hq
      omega
    have c1 : r % 2 = 0 := by rcases h.1 with h | h | h <;> omega
    have c2 : s % 2 = 0 := by rcases h'.2 with h | h <;> omega
    omega
  · exact c

theorem Near.unique {f r s p q p' q' : Nat} (h : Near f r p q) (h' : Near f s p' q') (hq : 0 < q) (hq' : 0 < q') (he : p * q' = p' * q) : r = s :=
  Nat.le_antisymm (h.mono h' hq hq' (by omega)) (h'.mono h hq' hq (by omega))

/-- A rung is nearest to itself. -/
theorem Near.self (f r : Nat) : Near f r (U f r) 1 := by
  have h1 := U_lt_succ f r
  refine ⟨?_, .inl (by unfold hi; omega)⟩
  rcases Nat.eq_zero_or_pos r with h | h
  · exact .inl h
  · have := U_mono (f := f) (r := r - 1) (s := r) (by omega)
    exact .inr (.inl (by unfold lo; omega))

theorem Near.scale {f r p q : Nat} (c : Nat) (hc : 0 < c) : Near f r (p * c) (q * c) ↔ Near f r p q := by
  have e (M : Nat) : (M * (q * c) < 2 * (p * c) ↔ M * q < 2 * p) ∧ (M * (q * c) = 2 * (p * c) ↔ M * q = 2 * p) ∧ (2 * (p * c) < M * (q * c) ↔ 2 * p < M * q) ∧ (2 * (p * c) = M * (q * c) ↔ 2 * p = M * q) := by
    rw [show M * (q * c) = M * q * c by rw [Nat.mul_assoc], show 2 * (p * c) = 2 * p * c by rw [Nat.mul_assoc]]
    refine ⟨Nat.mul_lt_mul_right hc, ?_, Nat.mul_lt_mul_right hc, ?_⟩
    · exact ⟨fun h => Nat.eq_of_mul_eq_mul_right hc h, fun h => by rw [h]⟩
    · exact ⟨fun h => Nat.eq_of_mul_eq_mul_right hc h, fun h => by rw [h]⟩
  unfold Near
  rw [(e _).1, (e _).2.1, (e _).2.2.1, (e _).2.2.2]

end Lathe

namespace Lathe
open Ieee

/-- k is n / 2^d to the nearest, of two as near the even one. -/
def Cut (k n d : Nat) : Prop :=
  (2 * k * 2 ^ d < 2 * n + 2 ^ d ∨ 2 * k * 2 ^ d = 2 * n + 2 ^ d ∧ k % 2 = 0) ∧ (2 * n < 2 * k * 2 ^ d + 2 ^ d ∨ 2 * n = 2 * k * 2 ^ d + 2 ^ d ∧ k % 2 = 0)

theorem Cut.of_div {n D : Nat} (hD : 0 < D) (k : Nat) (hk : k = n / D + (if D < 2 * (n % D) ∨ D = 2 * (n % D) ∧ n / D % 2 = 1 then 1 else 0)) :
    (2 * k * D < 2 * n + D ∨ 2 * k * D = 2 * n + D ∧ k % 2 = 0) ∧ (2 * n < 2 * k * D + D ∨ 2 * n = 2 * k * D + D ∧ k % 2 = 0) := by
  have h1 := Nat.div_add_mod n D
  have h2 := Nat.mod_lt n hD
  generalize n / D = q at *
  generalize n % D = r at *
  have e : 2 * k * D = 2 * (D * k) := by rw [Nat.mul_comm D k, Nat.mul_assoc]
  rw [e]
  split at hk
  · subst hk
    rw [Nat.mul_add, Nat.mul_one]
    generalize D * q = X at *
    omega
  · obtain rfl : k = q := by omega
    generalize D * k = X at *
    omega

theorem cut_even (neg : Bool) (n d : Nat) : Cut (Toward.even.cut neg n d) n d := by
  unfold Toward.cut
  simp only [Nat.shiftLeft_eq, Nat.one_mul]
  by_cases h : d ≤ n.log2 + 2
  · rw [Nat.min_eq_left h]
    refine Cut.of_div (Nat.two_pow_pos d) _ ?_
    congr 1
    by_cases c : 2 ^ d < 2 * (n % 2 ^ d)
    · simp [c]
    · by_cases c2 : 2 ^ d = 2 * (n % 2 ^ d)
      · rw [← c2]
        by_cases c3 : n / 2 ^ d % 2 = 1
        · simp [c3]
        · simp [c3]
      · simp [c, c2]
  · rw [Nat.min_eq_right (by omega)]
    have h1 : n < 2 ^ (n.log2 + 1) := Nat.lt_log2_self
    have h2 : 2 ^ (n.log2 + 2) = 2 * 2 ^ (n.log2 + 1) := by rw [Nat.pow_succ 2 (n.log2 + 1)]; omega
    have h3 : n % 2 ^ (n.log2 + 2) = n := Nat.mod_eq_of_lt (by omega)
    have h4 : n / 2 ^ (n.log2 + 2) = 0 := Nat.div_eq_of_lt (by omega)
    have h5 : 2 ^ (n.log2 + 2) ≤ 2 ^ d := Nat.pow_le_pow_right (by omega) (by omega)
    rw [h3, h4]
    have c1 : ¬ 2 ^ (n.log2 + 2) < 2 * n := by omega
    have c2 : ¬ 2 ^ (n.log2 + 2) = 2 * n := by omega
    simp only [c1, decide_false, Bool.false_or, Nat.zero_mod]
    have : ((2 ^ (n.log2 + 2) == 2 * n && (0 : Nat) == 1) : Bool).toNat = 0 := by simp
    rw [this]
    exact ⟨.inl (by omega), .inl (by omega)⟩

theorem Cut.zero {k n : Nat} (h : Cut k n 0) : k = n := by
  unfold Cut at h
  simp only [Nat.pow_zero, Nat.mul_one] at h
  omega

/-- What is cut at the place of a rung is the nearest rung. -/
theorem Near.of_cut {f k n m d p q : Nat} (hf : 1 ≤ f) (hc : Cut n m d) (hd : 0 < d) (h1 : m < 2 ^ (f + 1 + d)) (h2 : k = 0 ∨ 2 ^ (f + d) ≤ m) (hq : 0 < q) (hp : p * 2 ^ d = m * 2 ^ k * q) : Near f (k * 2 ^ f + n) p q := by
  have hD := Nat.two_pow_pos d
  have hF := Nat.two_pow_pos f
  have hK := Nat.two_pow_pos k
  have e1 : 2 ^ (f + 1 + d) = 2 * 2 ^ f * 2 ^ d := by rw [Nat.pow_add, Nat.pow_succ, Nat.mul_comm (2 ^ f) 2]
  have e2 : 2 ^ (f + d) = 2 ^ f * 2 ^ d := Nat.pow_add ..
  have e3 : 2 ^ (f + 1) = 2 * 2 ^ f := by rw [Nat.pow_succ]; omega
  have hpar : (k * 2 ^ f + n) % 2 = n % 2 := by
    obtain ⟨g, rfl⟩ : ∃ g, f = g + 1 := ⟨f - 1, by omega⟩
    rw [Nat.pow_succ, ← Nat.mul_assoc, Nat.add_comm, Nat.add_mul_mod_self_right]
  obtain ⟨c1, c2⟩ := hc
  -- n lies within the binade
  have n1 : n ≤ 2 * 2 ^ f := by
    rcases Nat.lt_or_ge (2 * 2 ^ f) n with c | c
    · exfalso
      have : (2 * 2 ^ f + 1) * 2 ^ d ≤ n * 2 ^ d := Nat.mul_le_mul_right _ c
      rw [Nat.add_mul, Nat.one_mul, ← e1] at this
      have e : 2 * n * 2 ^ d = 2 * (n * 2 ^ d) := Nat.mul_assoc ..
      omega
    · exact c
  have n2 : k = 0 ∨ 2 ^ f ≤ n := by
    rcases h2 with h2 | h2
    · exact .inl h2
    · right
      rcases Nat.lt_or_ge n (2 ^ f) with c | c
      · exfalso
        have : (n + 1) * 2 ^ d ≤ 2 ^ f * 2 ^ d := Nat.mul_le_mul_right _ c
        rw [Nat.add_mul, Nat.one_mul, ← e2] at this
        have e : 2 * n * 2 ^ d = 2 * (n * 2 ^ d) := Nat.mul_assoc ..
        omega
      · exact c
  have u0 : U f (k * 2 ^ f + n) = n * 2 ^ k := U_form f k n (by omega) n2
  -- a middle held against 2p: M * q with 2p
  have key (M a : Nat) (hM : M * 2 ^ d = a * 2 ^ k) : (a < 2 * m → M * q < 2 * p) ∧ (a = 2 * m → M * q = 2 * p) ∧ (2 * m < a → 2 * p < M * q) := by
    have f1 : M * q * 2 ^ d = a * (2 ^ k * q) := by rw [Nat.mul_right_comm, hM, Nat.mul_assoc]
    have f2 : 2 * p * 2 ^ d = 2 * m * (2 ^ k * q) := by rw [Nat.mul_assoc, hp, Nat.mul_assoc, Nat.mul_assoc]
    have hkq : 0 < 2 ^ k * q := Nat.mul_pos hK hq
    refine ⟨fun h => ?_, fun h => ?_, fun h => ?_⟩
    · exact Nat.lt_of_mul_lt_mul_right (a := 2 ^ d) (by rw [f1, f2]; exact Nat.mul_lt_mul_of_pos_right h hkq)
    · exact Nat.eq_of_mul_eq_mul_right hD (by rw [f1, f2, h])
    · exact Nat.lt_of_mul_lt_mul_right (a := 2 ^ d) (by rw [f1, f2]; exact Nat.mul_lt_mul_of_pos_right h hkq)
  constructor
  · -- ahead
    rcases Nat.eq_zero_or_pos (k * 2 ^ f + n) with z | z
    · exact .inl z
    · right
      by_cases b : 0 < k ∧ n = 2 ^ f
      · obtain ⟨b1, rfl⟩ := b
        obtain ⟨j, rfl⟩ : ∃ j, k = j + 1 := ⟨k - 1, by omega⟩
        left
        have v : U f ((j + 1) * 2 ^ f + 2 ^ f - 1) = (2 * 2 ^ f - 1) * 2 ^ j := by
          rw [show (j + 1) * 2 ^ f + 2 ^ f - 1 = j * 2 ^ f + (2 * 2 ^ f - 1) by rw [Nat.add_mul]; omega]
          exact U_form f j _ (by omega) (by omega)
        refine (key (lo f ((j + 1) * 2 ^ f + 2 ^ f)) ((4 * 2 ^ f - 1) * 2 ^ d / 2) ?_).1 ?_
        · unfold lo
          rw [v, u0]
          obtain ⟨e, rfl⟩ : ∃ e, d = e + 1 := ⟨d - 1, by omega⟩
          have : (4 * 2 ^ f - 1) * 2 ^ (e + 1) / 2 = (4 * 2 ^ f - 1) * 2 ^ e := by rw [Nat.pow_succ, ← Nat.mul_assoc]; exact Nat.mul_div_cancel _ (by omega)
          rw [this, Nat.pow_succ 2 e, Nat.pow_succ 2 j]
          obtain ⟨g, hg⟩ : ∃ g, 2 ^ f = g + 1 := ⟨2 ^ f - 1, by omega⟩
          rw [hg, show 2 * (g + 1) - 1 = 2 * g + 1 by omega, show 4 * (g + 1) - 1 = 4 * g + 3 by omega]
          grind
        · have h3 : 2 ^ (f + d) ≤ m := by omega
          have h4 : (4 * 2 ^ f - 1) * 2 ^ d < 4 * (2 ^ f * 2 ^ d) := by
            rw [← Nat.mul_assoc]
            exact Nat.mul_lt_mul_of_pos_right (by omega) hD
          omega
      · have hn : 1 ≤ n := by
          rcases n2 with n2 | n2
          · rw [n2, Nat.zero_mul] at z; omega
          · omega
        have v : U f (k * 2 ^ f + n - 1) = (n - 1) * 2 ^ k := by
          rw [show k * 2 ^ f + n - 1 = k * 2 ^ f + (n - 1) by omega]
          exact U_form f k _ (by omega) (by omega)
        have hM : lo f (k * 2 ^ f + n) * 2 ^ d = (2 * n - 1) * 2 ^ d * 2 ^ k := by
          unfold lo
          rw [v, u0, ← Nat.add_mul, show n - 1 + n = 2 * n - 1 by omega, Nat.mul_right_comm]
        have e5 : (2 * n - 1) * 2 ^ d + 2 ^ d = 2 * n * 2 ^ d := by
          rw [← Nat.succ_mul]; congr 1; omega
        rw [hpar]
        rcases c1 with c | ⟨c, ce⟩
        · exact .inl ((key _ _ hM).1 (by omega))
        · exact .inr ⟨(key _ _ hM).2.1 (by omega), ce⟩
  · by_cases b : n < 2 * 2 ^ f
    · have v : U f (k * 2 ^ f + n + 1) = (n + 1) * 2 ^ k := U_succ f k n (by omega) n2
      have hM : hi f (k * 2 ^ f + n) * 2 ^ d = (2 * n + 1) * 2 ^ d * 2 ^ k := by
        unfold hi
        rw [v, u0, ← Nat.add_mul, show n + (n + 1) = 2 * n + 1 by omega, Nat.mul_right_comm]
      have e5 : (2 * n + 1) * 2 ^ d = 2 * n * 2 ^ d + 2 ^ d := by rw [Nat.add_mul, Nat.one_mul]
      rw [hpar]
      rcases c2 with c | ⟨c, ce⟩
      · exact .inl ((key _ _ hM).2.2 (by omega))
      · exact .inr ⟨((key _ _ hM).2.1 (by omega)).symm, ce⟩
    · obtain rfl : n = 2 * 2 ^ f := by omega
      left
      have v : U f (k * 2 ^ f + 2 * 2 ^ f) ≤ U f (k * 2 ^ f + 2 * 2 ^ f + 1) := U_le (by omega)
      have hM : 2 * U f (k * 2 ^ f + 2 * 2 ^ f) * 2 ^ d = 2 * (2 * 2 ^ f) * 2 ^ d * 2 ^ k := by
        rw [u0]; grind
      have := (key _ _ hM).2.2 (by rw [e1] at h1; rw [Nat.mul_assoc 2 (2 * 2 ^ f)]; omega)
      refine Nat.lt_of_lt_of_le this (Nat.mul_le_mul_right _ ?_)
      unfold hi
      omega

/-- The place of the last digit that is kept, and the rung, as the model reckons them. -/
def rungOf (fm : Format) (mag : Nat) (place : Int) : Nat :=
  (max (place + mag.log2 - fm.fractionBits) fm.leastPlace - fm.leastPlace).toNat * 2 ^ fm.fractionBits +
    Toward.even.cut false (mag <<< (place - max (place + mag.log2 - fm.fractionBits) fm.leastPlace).toNat) (max (place + mag.log2 - fm.fractionBits) fm.leastPlace - place).toNat

theorem nearest_rung (fm : Format) (neg : Bool) (mag : Nat) (place : Int) (h : mag ≠ 0) : fm.nearest neg mag place = fm.word neg (min (rungOf fm mag place) fm.infRung) := by
  unfold Format.nearest rungOf
  rw [if_neg h]
  rfl

theorem Near.rungOf (fm : Format) (hf : 1 ≤ fm.fractionBits) (mag : Nat) (place : Int) (h : mag ≠ 0) :
    Near fm.fractionBits (rungOf fm mag place) (mag * 2 ^ (place - fm.leastPlace).toNat) (2 ^ (fm.leastPlace - place).toNat) := by
  unfold Lathe.rungOf
  generalize hL : fm.leastPlace = L
  generalize hff : fm.fractionBits = f at *
  have l1 : 2 ^ mag.log2 ≤ mag := Nat.log2_self_le h
  have l2 : mag < 2 ^ (mag.log2 + 1) := Nat.lt_log2_self
  generalize mag.log2 = g at *
  generalize hlast : max (place + g - f) L = last
  by_cases c : last ≤ place
  · have e0 : (last - place).toNat = 0 := by omega
    rw [e0, (cut_even false _ 0).zero, Nat.shiftLeft_eq]
    have e1 : (L - place).toNat = 0 := by omega
    rw [e1, Nat.pow_zero]
    have hn : mag * 2 ^ (place - last).toNat < 2 ^ (f + 1) := by
      have : mag * 2 ^ (place - last).toNat < 2 ^ (g + 1) * 2 ^ (place - last).toNat := Nat.mul_lt_mul_of_pos_right l2 (Nat.two_pow_pos _)
      rw [← Nat.pow_add] at this
      exact Nat.lt_of_lt_of_le this (Nat.pow_le_pow_right (by omega) (by omega))
    have hk : (last - L).toNat = 0 ∨ 2 ^ f ≤ mag * 2 ^ (place - last).toNat := by
      by_cases z : last = L
      · left; omega
      · right
        have : 2 ^ g * 2 ^ (place - last).toNat ≤ mag * 2 ^ (place - last).toNat := Nat.mul_le_mul_right _ l1
        rw [← Nat.pow_add] at this
        exact Nat.le_trans (Nat.pow_le_pow_right (by omega) (by omega)) this
    have hU := U_form f (last - L).toNat _ (Nat.le_of_lt hn) hk
    have := Near.self f ((last - L).toNat * 2 ^ f + mag * 2 ^ (place - last).toNat)
    rw [hU, Nat.mul_assoc, ← Nat.pow_add, show (place - last).toNat + (last - L).toNat = (place - L).toNat by omega] at this
    exact this
  · have e0 : (place - last).toNat = 0 := by omega
    rw [e0, Nat.shiftLeft_zero]
    refine Near.of_cut hf (cut_even false _ _) (by omega) ?_ ?_ (Nat.two_pow_pos _) ?_
    · exact Nat.lt_of_lt_of_le l2 (Nat.pow_le_pow_right (by omega) (by omega))
    · by_cases z : last = L
      · left; omega
      · right
        exact Nat.le_trans (Nat.pow_le_pow_right (by omega) (by omega)) l1
    · rw [Nat.mul_assoc, Nat.mul_assoc, ← Nat.pow_add, ← Nat.pow_add]
      congr 2
      omega
end Lathe

namespace Lathe
open Ieee

/-- r is the rung nearest to x, where c M tells how M stands to 2 * x. -/
def NearC (f r : Nat) (c : Nat → Ordering) : Prop :=
  (r = 0 ∨ c (lo f r) = .lt ∨ c (lo f r) = .eq ∧ r % 2 = 0) ∧ (c (hi f r) = .gt ∨ c (hi f r) = .eq ∧ r % 2 = 0)

/-- How M stands to 2 * p / q; to 2 * sqrt p. -/
def cq (p q M : Nat) : Ordering := compare (M * q) (2 * p)
def cs (p M : Nat) : Ordering := compare (M * M) (4 * p)

theorem near_iff {f r p q : Nat} : Near f r p q ↔ NearC f r (cq p q) := by
  unfold Near NearC cq
  rw [Nat.compare_eq_lt, Nat.compare_eq_eq, Nat.compare_eq_gt, Nat.compare_eq_eq, @eq_comm _ (2 * p)]

/-- A number stands to the middles as a number does. -/
structure Sane (c : Nat → Ordering) : Prop where
  up : ∀ M M', M < M' → c M ≠ .lt → c M' = .gt
theorem Sane.down {c : Nat → Ordering} (h : Sane c) {M M' : Nat} (hl : M < M') (hc : c M' ≠ .gt) : c M = .lt := by
  cases e : c M with
  | lt => rfl
  | eq => exact absurd (h.up M M' hl (by rw [e]; decide)) hc
  | gt => exact absurd (h.up M M' hl (by rw [e]; decide)) hc

theorem sane_cq (p q : Nat) (hq : 0 < q) : Sane (cq p q) := by
  refine ⟨fun M M' hl hc => ?_⟩
  unfold cq at *
  rw [ne_eq, Nat.compare_eq_lt] at hc
  rw [Nat.compare_eq_gt]
  have := Nat.mul_lt_mul_of_pos_right hl hq
  omega
theorem sane_cs (p : Nat) : Sane (cs p) := by
  refine ⟨fun M M' hl hc => ?_⟩
  unfold cs at *
  rw [ne_eq, Nat.compare_eq_lt] at hc
  rw [Nat.compare_eq_gt]
  have := Nat.mul_lt_mul'' hl hl
  omega

theorem NearC.mono {f r s : Nat} {c c' : Nat → Ordering} (h : NearC f r c) (h' : NearC f s c') (sc : Sane c) (hle : ∀ M, c M = .lt → c' M = .lt) (hle' : ∀ M, c M = .eq → c' M ≠ .gt) : r ≤ s := by
  rcases Nat.lt_or_ge s r with d | d
  · exfalso
    have a1 := hi_le_lo (f := f) d
    have a2 : c (lo f r) = .lt ∨ c (lo f r) = .eq ∧ r % 2 = 0 := by
      rcases h.1 with h | h
      · omega
      · exact h
    have a3 := h'.2
    rcases Nat.lt_or_ge (hi f s) (lo f r) with e | e
    · have : c (hi f s) = .lt := sc.down e (by rcases a2 with a | ⟨a, _⟩ <;> rw [a] <;> decide)
      have := hle _ this
      rcases a3 with a | ⟨a, _⟩ <;> rw [this] at a <;> cases a
    · have e : hi f s = lo f r := by omega
      have a7 : r = s + 1 := by
        rcases Nat.lt_or_ge (s + 1) r with d | d
        · have := hi_lt_lo (f := f) d; omega
        · omega
      rw [e] at a3
      rcases a2 with a | ⟨a, ar⟩
      · have := hle _ a
        rcases a3 with a | ⟨a, _⟩ <;> rw [this] at a <;> cases a
      · have := hle' _ a
        rcases a3 with a | ⟨a, as⟩
        · exact this a
        · omega
  · exact d
theorem NearC.unique {f r s : Nat} {c : Nat → Ordering} (h : NearC f r c) (h' : NearC f s c) (sc : Sane c) : r = s :=
  Nat.le_antisymm (h.mono h' sc (fun _ e => e) (fun _ e e' => by rw [e] at e'; cases e')) (h'.mono h sc (fun _ e => e) (fun _ e e' => by rw [e] at e'; cases e'))

theorem U_bin (f j : Nat) : U f ((j + 1) * 2 ^ f) = 2 ^ (f + j) := by
  rw [show (j + 1) * 2 ^ f = j * 2 ^ f + 2 ^ f by rw [Nat.add_mul, Nat.one_mul], U_form f j (2 ^ f) (by rw [Nat.pow_succ]; omega) (.inr (Nat.le_refl _)), Nat.pow_add]

/-- y / 2 times 2^t was rounded, y's last digit telling whether anything is left over: the number itself is rounded so. -/
theorem NearC.of_sticky {f r y a b : Nat} {c : Nat → Ordering} (hab : a = 0 ∨ b = 0) (h : Near f r (y * 2 ^ a) (2 * 2 ^ b))
    (hdiv : ∀ M M', M * 2 ^ b = 2 * M' * 2 ^ a → c M = compare (2 * M') y)
    (hbig : b = 0 → 2 ^ (f + 2) ≤ y ∧ ∀ M, M < 2 ^ (f + 2 + a) → c M = .lt) : NearC f r c := by
  -- t = a - b
  have hA := Nat.two_pow_pos a
  have hB := Nat.two_pow_pos b
  have hF := Nat.two_pow_pos f
  -- a middle that divides
  have key (M : Nat) (hM : ∃ M', M * 2 ^ b = 2 * M' * 2 ^ a) : (M * (2 * 2 ^ b) < 2 * (y * 2 ^ a) → c M = .lt) ∧ (M * (2 * 2 ^ b) = 2 * (y * 2 ^ a) → c M = .eq) ∧ (2 * (y * 2 ^ a) < M * (2 * 2 ^ b) → c M = .gt) := by
    obtain ⟨M', hM'⟩ := hM
    rw [hdiv M M' hM', Nat.compare_eq_lt, Nat.compare_eq_eq, Nat.compare_eq_gt]
    have e : M * (2 * 2 ^ b) = 2 * (2 * M' * 2 ^ a) := by rw [← hM']; grind
    rw [e]
    refine ⟨fun h => ?_, fun h => ?_, fun h => ?_⟩
    · have h : 2 * M' * 2 ^ a < y * 2 ^ a := by omega
      exact Nat.lt_of_mul_lt_mul_right h
    · have h : 2 * M' * 2 ^ a = y * 2 ^ a := by omega
      exact Nat.eq_of_mul_eq_mul_right hA h
    · have h : y * 2 ^ a < 2 * M' * 2 ^ a := by omega
      exact Nat.lt_of_mul_lt_mul_right h
  rcases Nat.eq_zero_or_pos b with hb | hb
  · subst hb
    obtain ⟨hy, hbg⟩ := hbig rfl
    simp only [Nat.pow_zero, Nat.mul_one] at *
    have e1 : 2 ^ (f + 2 + a) = 4 * (2 ^ f * 2 ^ a) := by rw [Nat.pow_add, Nat.pow_add]; grind
    have e2 : 2 ^ (f + 2) = 4 * 2 ^ f := by rw [Nat.pow_add]; grind
    have y1 : 2 ^ (f + 2 + a) ≤ y * 2 ^ a := by rw [Nat.pow_add]; exact Nat.mul_le_mul_right _ hy
    have ub : U f ((a + 2) * 2 ^ f) = 2 * (2 ^ f * 2 ^ a) := by
      rw [U_bin f (a + 1), Nat.pow_add, Nat.pow_succ]; grind
    -- r lies in the binade or above
    have r0 : (a + 2) * 2 ^ f ≤ r := by
      have h2 : 2 * (y * 2 ^ a) ≤ hi f r * 2 := by rcases h.2 with h | h <;> omega
      have h3 := U_lt_succ f r
      have h4 : U f ((a + 2) * 2 ^ f) < U f (r + 1) := by unfold hi at h2; omega
      have := U_lt_iff.1 h4
      omega
    have dv {s : Nat} (hs : (a + 2) * 2 ^ f ≤ s) : 2 ^ (a + 1) ∣ U f s := by
      refine U_dvd ?_
      have := U_le (f := f) hs
      rw [ub] at this
      rw [Nat.pow_add, Nat.pow_succ]
      grind
    have two {M : Nat} (hM : 2 ^ (a + 1) ∣ M) : ∃ M', M = 2 * M' * 2 ^ a := by
      obtain ⟨z, rfl⟩ := hM
      exact ⟨z, by rw [Nat.pow_succ]; grind⟩
    constructor
    · rcases Nat.lt_or_ge ((a + 2) * 2 ^ f) r with d | d
      · have := key (lo f r) (two (Nat.dvd_add (dv (by omega)) (dv r0)))
        rcases h.1 with h | h | ⟨h, e⟩
        · exact .inl h
        · exact .inr (.inl (this.1 h))
        · exact .inr (.inr ⟨this.2.1 h, e⟩)
      · obtain rfl : r = (a + 2) * 2 ^ f := by omega
        right; left
        refine hbg _ ?_
        have hpos : 0 < (a + 2) * 2 ^ f := Nat.mul_pos (by omega) hF
        have := U_mono (f := f) (r := (a + 2) * 2 ^ f - 1) (s := (a + 2) * 2 ^ f) (by omega)
        unfold lo
        omega
    · have := key (hi f r) (two (Nat.dvd_add (dv r0) (dv (by omega))))
      rcases h.2 with h | ⟨h, e⟩
      · exact .inl (this.2.2 h)
      · exact .inr ⟨this.2.1 h.symm, e⟩
  · obtain rfl : a = 0 := by omega
    obtain ⟨d, rfl⟩ : ∃ d, b = d + 1 := ⟨b - 1, by omega⟩
    have all (M : Nat) : ∃ M', M * 2 ^ (d + 1) = 2 * M' * 2 ^ 0 := ⟨M * 2 ^ d, by rw [Nat.pow_succ]; grind⟩
    constructor
    · have := key (lo f r) (all _)
      rcases h.1 with h | h | ⟨h, e⟩
      · exact .inl h
      · exact .inr (.inl (this.1 h))
      · exact .inr (.inr ⟨this.2.1 h, e⟩)
    · have := key (hi f r) (all _)
      rcases h.2 with h | ⟨h, e⟩
      · exact .inl (this.2.2 h)
      · exact .inr ⟨this.2.1 h.symm, e⟩

/-- A quotient, doubled, with one more where anything is left over. -/
theorem sticky_div (D n M : Nat) (hn : 0 < n) (s : Nat) (hs : s = if D % n = 0 then 0 else 1) : compare (2 * M) (2 * (D / n) + s) = compare (M * n) D := by
  have h1 := Nat.div_add_mod D n
  have h2 := Nat.mod_lt D hn
  have hmul (x y : Nat) (h : x < y) : x * n + n ≤ y * n := by rw [← Nat.succ_mul]; exact Nat.mul_le_mul_right n h
  have hc : n * (D / n) = D / n * n := Nat.mul_comm ..
  rcases Nat.lt_trichotomy M (D / n) with c | c | c
  · rw [Nat.compare_eq_lt.2 (by omega), Nat.compare_eq_lt.2 (by have := hmul _ _ c; omega)]
  · subst c
    split at hs
    · subst hs
      rw [Nat.compare_eq_eq.2 (by omega), Nat.compare_eq_eq.2 (by omega)]
    · subst hs
      rw [Nat.compare_eq_lt.2 (by omega), Nat.compare_eq_lt.2 (by omega)]
  · have : s ≤ 1 := by split at hs <;> omega
    rw [Nat.compare_eq_gt.2 (by omega), Nat.compare_eq_gt.2 (by have := hmul _ _ c; omega)]

/-- A whole root, doubled, with one more where anything is left over. -/
theorem sticky_root (n w M : Nat) (h1 : w * w ≤ n) (h2 : n < (w + 1) * (w + 1)) (s : Nat) (hs : s = if w * w = n then 0 else 1) : compare (2 * M) (2 * w + s) = compare (M * M) n := by
  rcases Nat.lt_trichotomy M w with c | c | c
  · have := Nat.mul_lt_mul'' c c
    rw [Nat.compare_eq_lt.2 (by omega), Nat.compare_eq_lt.2 (by omega)]
  · subst c
    split at hs
    · subst hs
      rw [Nat.compare_eq_eq.2 (by omega), Nat.compare_eq_eq.2 (by omega)]
    · subst hs
      rw [Nat.compare_eq_lt.2 (by omega), Nat.compare_eq_lt.2 (by omega)]
  · have : s ≤ 1 := by split at hs <;> omega
    have := Nat.mul_le_mul (show w + 1 ≤ M from c) (show w + 1 ≤ M from c)
    rw [Nat.compare_eq_gt.2 (by omega), Nat.compare_eq_gt.2 (by omega)]
end Lathe

namespace Lathe
open Ieee

def sg (a : Nat) : Bool := a / 2147483648 % 2 == 1
def rg (a : Nat) : Nat := a % 2147483648
def pk (s : Bool) (r : Nat) : Nat := if s then 2147483648 + r else r
/-- The number of a finite pattern, in units of 2^-149. -/
def V (a : Nat) : Int := if sg a then -(U 23 (rg a) : Int) else (U 23 (rg a) : Int)
/-- A finite pattern's digits and their place. -/
def mg (a : Nat) : Nat := if rg a < 8388608 then rg a else 8388608 + rg a % 8388608
def kk (a : Nat) : Nat := rg a / 8388608 - 1

/-- x is the number, of a sign, that lies nearest. -/
def Is (s : Bool) (c : Nat → Ordering) (x : Nat) : Prop := ∃ R, NearC 23 R c ∧ x = pk s (min R 2139095040)

theorem Is.unique {s : Bool} {c : Nat → Ordering} {x y : Nat} (h : Is s c x) (h' : Is s c y) (sc : Sane c) : x = y := by
  obtain ⟨R, h1, rfl⟩ := h
  obtain ⟨S, h2, rfl⟩ := h'
  rw [h1.unique h2 sc]

theorem least_place : single.leastPlace = -149 := by decide
theorem inf_rung : single.infRung = 2139095040 := by decide
theorem sign_weight : single.signWeight = 2147483648 := by decide
theorem binade_ : single.binade = 8388608 := by decide
theorem word_ (s : Bool) (r : Nat) : single.word s r = pk s r := by
  unfold Format.word pk
  rw [sign_weight]

theorem U_mg (a : Nat) : U 23 (rg a) = mg a * 2 ^ kk a := by
  unfold U mg kk
  simp only [show (2 : Nat) ^ 23 = 8388608 from rfl]
  split
  · rename_i h
    rw [Nat.div_eq_of_lt h]
    simp
  · rfl
theorem mg_lt (a : Nat) : mg a < 16777216 := by
  unfold mg
  split <;> omega
theorem mg_ge (a : Nat) : kk a = 0 ∨ 8388608 ≤ mg a := by
  unfold mg kk
  split
  · left; omega
  · right; omega
theorem kk_le {a : Nat} (h : rg a < 2139095040) : kk a ≤ 253 := by
  unfold kk
  omega
theorem mg_zero {a : Nat} : mg a = 0 ↔ rg a = 0 := by
  unfold mg
  split <;> omega
theorem rg_lt (a : Nat) : rg a < 2147483648 := Nat.mod_lt _ (by omega)

theorem read_fin {a : Nat} (h : rg a < 2139095040) : single.read a = .number (sg a) (mg a) (-149 + (kk a : Int)) := by
  unfold Format.read mg kk sg rg at *
  simp only [sign_weight, binade_, inf_rung, least_place] at *
  split
  · rename_i h1
    rw [Nat.div_eq_of_lt h1]
    simp
  · rfl
theorem read_inf {a : Nat} (h : rg a = 2139095040) : single.read a = .infinity (sg a) := by
  unfold Format.read sg rg at *
  simp only [sign_weight, binade_, inf_rung, least_place] at *
  rw [if_neg (by omega), if_neg (by omega), if_pos h]
theorem read_nan {a : Nat} (h : 2139095040 < rg a) : single.read a = .nan (sg a) (rg a - 2139095040) := by
  unfold Format.read sg rg at *
  simp only [sign_weight, binade_, inf_rung, least_place] at *
  rw [if_neg (by omega), if_neg (by omega), if_neg (by omega)]

theorem sg_pk {s : Bool} {r : Nat} (h : r < 2147483648) : sg (pk s r) = s := by
  unfold sg pk
  cases s
  · simp; omega
  · simp; omega
theorem rg_pk {s : Bool} {r : Nat} (h : r < 2147483648) : rg (pk s r) = r := by
  unfold rg pk
  cases s
  · simp; omega
  · simp; omega
theorem pk_of {a : Nat} (h : a < 4294967296) : pk (sg a) (rg a) = a := by
  unfold sg rg pk
  by_cases c : a / 2147483648 % 2 = 1
  · simp [c]; omega
  · simp [c]; omega

/-- A number written: the nearest. -/
theorem write_number (s : Bool) (m : Nat) (place : Int) : Is s (cq (m * 2 ^ (place + 149).toNat) (2 ^ (-149 - place).toNat)) (single.write (.number s m place)) := by
  show Is s _ (single.nearest s m place)
  by_cases h : m = 0
  · subst h
    refine ⟨0, near_iff.1 ?_, ?_⟩
    · refine ⟨.inl rfl, .inl ?_⟩
      have : 0 < hi 23 0 := by unfold hi; have := U_lt_succ 23 0; omega
      have := Nat.mul_pos this (Nat.two_pow_pos (-149 - place).toNat)
      omega
    · simp [Format.nearest, word_]
  · rw [nearest_rung _ _ _ _ h, word_, inf_rung]
    refine ⟨_, near_iff.1 ?_, rfl⟩
    have := Near.rungOf single (by decide) m place h
    rw [least_place] at this
    rw [show place + 149 = place - -149 by omega]
    exact this

theorem natAbs_mul_pow (x : Int) (k : Nat) : (x * (2 ^ k : Nat)).natAbs = x.natAbs * 2 ^ k := by
  rw [Int.natAbs_mul, Int.natAbs_natCast]

/-- The sum of two finite numbers. -/
theorem fadd_fin {a b : Nat} (ha : rg a < 2139095040) (hb : rg b < 2139095040) : Is (if V a + V b = 0 then sg a && sg b else decide (V a + V b < 0)) (cq (V a + V b).natAbs 1) (fadd a b) := by
  unfold fadd Format.add
  rw [read_fin ha, read_fin hb]
  simp only [Datum.sum, Option.map_some, res, Option.getD_some]
  generalize hbase : min (-149 + (kk a : Int)) (-149 + (kk b : Int)) = base
  generalize htot : signed (sg a) (mg a) (-149 + (kk a : Int) - base).toNat + signed (sg b) (mg b) (-149 + (kk b : Int) - base).toNat = total
  have key (c : Nat) (hc : base ≤ -149 + (kk c : Int)) : V c = signed (sg c) (mg c) (-149 + (kk c : Int) - base).toNat * (2 ^ (base + 149).toNat : Nat) := by
    unfold V signed
    have e : U 23 (rg c) = mg c <<< (-149 + (kk c : Int) - base).toNat * 2 ^ (base + 149).toNat := by
      rw [U_mg, Nat.shiftLeft_eq, Nat.mul_assoc, ← Nat.pow_add]
      congr 2
      omega
    rw [e]
    split <;> simp [Int.neg_mul]
  have hs : V a + V b = total * (2 ^ (base + 149).toNat : Nat) := by
    rw [key a (by omega), key b (by omega), ← htot, Int.add_mul]
  have hpos : (0 : Int) < (2 ^ (base + 149).toNat : Nat) := by
    have := Nat.two_pow_pos (base + 149).toNat
    omega
  have hz : total = 0 ↔ V a + V b = 0 := by
    rw [hs]
    constructor
    · intro h; rw [h]; simp
    · intro h
      rcases Int.mul_eq_zero.1 h with h | h
      · exact h
      · omega
  have hl : total < 0 ↔ V a + V b < 0 := by
    rw [hs]
    constructor
    · intro h; exact Int.mul_neg_of_neg_of_pos h hpos
    · intro h
      rcases Int.lt_or_le total 0 with c | c
      · exact c
      · have := Int.mul_nonneg c (Int.le_of_lt hpos)
        omega
  have := write_number (if total = 0 then (sg a && sg b) else decide (total < 0)) total.natAbs base
  rw [show (-149 - base).toNat = 0 by omega, Nat.pow_zero] at this
  rw [hs, natAbs_mul_pow, ← hs]
  simpa only [hz, hl] using this

theorem fmul_fin {a b : Nat} (ha : rg a < 2139095040) (hb : rg b < 2139095040) : Is (sg a ^^ sg b) (cq (U 23 (rg a) * U 23 (rg b)) (2 ^ 149)) (fmul a b) := by
  unfold fmul Format.mul
  rw [read_fin ha, read_fin hb]
  simp only [Datum.product, Option.map_some, res, Option.getD_some]
  obtain ⟨R, h1, h2⟩ := write_number (sg a ^^ sg b) (mg a * mg b) (-149 + (kk a : Int) + (-149 + (kk b : Int)))
  refine ⟨R, near_iff.1 ?_, h2⟩
  have h1 := near_iff.2 h1
  rw [U_mg, U_mg]
  generalize hx : (-149 + (kk a : Int) + (-149 + (kk b : Int)) + 149).toNat = x at *
  generalize hy : (-149 - (-149 + (kk a : Int) + (-149 + (kk b : Int)))).toNat = y at *
  have e : mg a * 2 ^ kk a * (mg b * 2 ^ kk b) = mg a * mg b * 2 ^ (kk a + kk b) := by rw [Nat.pow_add]; grind
  rw [e]
  -- both over 2 ^ (149 - y)
  have := (Near.scale (f := 23) (r := R) (p := mg a * mg b * 2 ^ x) (q := 2 ^ y) (2 ^ (149 - y)) (Nat.two_pow_pos _)).2 h1
  rw [Nat.mul_assoc, ← Nat.pow_add, ← Nat.pow_add] at this
  have e2 : kk a + kk b = x + (149 - y) := by omega
  have e3 : y + (149 - y) = 149 := by omega
  rw [e3] at this
  rw [e2]
  exact this

theorem cq_div {p q n a b D M M' : Nat} (hn : 0 < n) (hq : 0 < q) (hrel : p * n * 2 ^ b = D * 2 ^ a * q) (hM : M * 2 ^ b = 2 * M' * 2 ^ a) : cq p q M = compare (M' * n) D := by
  unfold cq
  have hb := Nat.two_pow_pos b
  have ha := Nat.two_pow_pos a
  have e1 : M * q * (n * 2 ^ b) = M' * n * (2 * (2 ^ a * q)) := by
    calc M * q * (n * 2 ^ b) = M * 2 ^ b * (q * n) := by grind
      _ = 2 * M' * 2 ^ a * (q * n) := by rw [hM]
      _ = _ := by grind
  have e2 : 2 * p * (n * 2 ^ b) = D * (2 * (2 ^ a * q)) := by
    calc 2 * p * (n * 2 ^ b) = 2 * (p * n * 2 ^ b) := by grind
      _ = 2 * (D * 2 ^ a * q) := by rw [hrel]
      _ = _ := by grind
  have c1 : 0 < n * 2 ^ b := Nat.mul_pos hn hb
  have c2 : 0 < 2 * (2 ^ a * q) := Nat.mul_pos (by omega) (Nat.mul_pos ha hq)
  rcases Nat.lt_trichotomy (M' * n) D with c | c | c
  · rw [Nat.compare_eq_lt.2 c, Nat.compare_eq_lt]
    exact Nat.lt_of_mul_lt_mul_right (a := n * 2 ^ b) (by rw [e1, e2]; exact Nat.mul_lt_mul_of_pos_right c c2)
  · rw [Nat.compare_eq_eq.2 c, Nat.compare_eq_eq]
    exact Nat.eq_of_mul_eq_mul_right c1 (by rw [e1, e2, c])
  · rw [Nat.compare_eq_gt.2 c, Nat.compare_eq_gt]
    exact Nat.lt_of_mul_lt_mul_right (a := n * 2 ^ b) (by rw [e1, e2]; exact Nat.mul_lt_mul_of_pos_right c c2)

/-- A quotient cut, with a digit for what is left over, is rounded as the quotient is. -/
theorem near_div {f r D n a b p q s : Nat} (hn : 0 < n) (hq : 0 < q) (hab : a = 0 ∨ b = 0) (hD : 2 ^ (f + 1) * n ≤ D) (hrel : p * n * 2 ^ b = D * 2 ^ a * q)
    (hs : s = if D % n = 0 then 0 else 1) (h : Near f r ((2 * (D / n) + s) * 2 ^ a) (2 * 2 ^ b)) : NearC f r (cq p q) := by
  refine NearC.of_sticky hab h (fun M M' hM => ?_) (fun hb => ⟨?_, fun M hM => ?_⟩)
  · rw [sticky_div D n M' hn s hs, cq_div hn hq hrel hM]
  · have : 2 ^ (f + 1) ≤ D / n := by rw [Nat.le_div_iff_mul_le hn]; exact hD
    have e : 2 ^ (f + 2) = 2 * 2 ^ (f + 1) := by rw [Nat.pow_succ 2 (f + 1)]; omega
    omega
  · subst hb
    unfold cq
    rw [Nat.compare_eq_lt]
    simp only [Nat.pow_zero, Nat.mul_one] at hrel
    refine Nat.lt_of_mul_lt_mul_right (a := n) ?_
    have e1 : 2 * p * n = 2 * (D * 2 ^ a * q) := by rw [Nat.mul_assoc, hrel]
    rw [e1]
    have e2 : M * q * n < 2 ^ (f + 2 + a) * q * n := Nat.mul_lt_mul_of_pos_right (Nat.mul_lt_mul_of_pos_right hM hq) hn
    have e3 : 2 ^ (f + 2 + a) * q * n = 2 * (2 ^ (f + 1) * n * (2 ^ a * q)) := by
      rw [Nat.pow_add, Nat.pow_succ 2 (f + 1)]; grind
    have e4 : 2 ^ (f + 1) * n * (2 ^ a * q) ≤ D * (2 ^ a * q) := Nat.mul_le_mul_right _ hD
    rw [Nat.mul_assoc D]
    omega

/-- A root cut, with a digit for what is left over, is rounded as the root is. -/
theorem near_root {f r n w a p s : Nat} (h1 : w * w ≤ n) (h2 : n < (w + 1) * (w + 1)) (hn : 2 ^ (f + 1) * 2 ^ (f + 1) ≤ n) (hp : p = n * (2 ^ a * 2 ^ a))
    (hs : s = if w * w = n then 0 else 1) (h : Near f r ((2 * w + s) * 2 ^ a) 2) : NearC f r (cs p) := by
  have hA := Nat.two_pow_pos a
  have e0 : 2 ^ (f + 2) = 2 * 2 ^ (f + 1) := by rw [Nat.pow_succ 2 (f + 1)]; omega
  have hw : 2 ^ (f + 1) ≤ w := by
    rcases Nat.lt_or_ge w (2 ^ (f + 1)) with c | c
    · have := Nat.mul_le_mul (show w + 1 ≤ 2 ^ (f + 1) from c) (show w + 1 ≤ 2 ^ (f + 1) from c)
      omega
    · exact c
  refine NearC.of_sticky (b := 0) (.inr rfl) (by simpa using h) (fun M M' hM => ?_) (fun _ => ⟨by omega, fun M hM => ?_⟩)
  · rw [sticky_root n w M' h1 h2 s hs]
    simp only [Nat.pow_zero, Nat.mul_one] at hM
    subst hM
    unfold cs
    have e1 : 2 * M' * 2 ^ a * (2 * M' * 2 ^ a) = M' * M' * (4 * (2 ^ a * 2 ^ a)) := by grind
    have e2 : 4 * p = n * (4 * (2 ^ a * 2 ^ a)) := by rw [hp]; grind
    have c2 : 0 < 4 * (2 ^ a * 2 ^ a) := Nat.mul_pos (by omega) (Nat.mul_pos hA hA)
    rw [e1, e2]
    rcases Nat.lt_trichotomy (M' * M') n with c | c | c
    · rw [Nat.compare_eq_lt.2 c, Nat.compare_eq_lt]; exact Nat.mul_lt_mul_of_pos_right c c2
    · rw [Nat.compare_eq_eq.2 c, Nat.compare_eq_eq, c]
    · rw [Nat.compare_eq_gt.2 c, Nat.compare_eq_gt]; exact Nat.mul_lt_mul_of_pos_right c c2
  · unfold cs
    rw [Nat.compare_eq_lt, hp]
    have := Nat.mul_lt_mul'' hM hM
    have e3 : 2 ^ (f + 2 + a) * 2 ^ (f + 2 + a) = 4 * (2 ^ (f + 1) * 2 ^ (f + 1) * (2 ^ a * 2 ^ a)) := by
      rw [Nat.pow_add, e0]; grind
    have e4 : 2 ^ (f + 1) * 2 ^ (f + 1) * (2 ^ a * 2 ^ a) ≤ n * (2 ^ a * 2 ^ a) := Nat.mul_le_mul_right _ hn
    omega

theorem fdiv_fin {a b : Nat} (ha : rg a < 2139095040) (hb : rg b < 2139095040) (hz : rg b ≠ 0) : Is (sg a ^^ sg b) (cq (U 23 (rg a) * 2 ^ 149) (U 23 (rg b))) (fdiv a b) := by
  unfold fdiv Format.div
  rw [read_fin ha, read_fin hb]
  have hn : mg b ≠ 0 := by rw [ne_eq, mg_zero]; exact hz
  simp only [Datum.quotient, if_neg hn, Option.map_some, res, Option.getD_some, Nat.shiftLeft_eq]
  have hub : 0 < U 23 (rg b) := U_pos (by omega)
  by_cases hm : mg a = 0
  · rw [hm]
    simp only [Nat.zero_mul, Nat.zero_div, Nat.zero_mod, Nat.mul_zero]
    have : U 23 (rg a) = 0 := by rw [mg_zero.1 hm, U_zero]
    rw [this, Nat.zero_mul]
    refine ⟨0, near_iff.1 ⟨.inl rfl, .inl ?_⟩, ?_⟩
    · have : 0 < hi 23 0 := by unfold hi; have := U_lt_succ 23 0; omega
      have := Nat.mul_pos this hub
      omega
    · simp [Format.write, Format.nearest, word_]
  · generalize hmore : single.fractionBits + 2 + (mg b).log2 - (mg a).log2 = more
    have hm25 : single.fractionBits + 2 = 25 := by decide
    rw [hm25] at hmore
    have l1 : 2 ^ (mg a).log2 ≤ mg a := Nat.log2_self_le hm
    have l2 : mg b < 2 ^ ((mg b).log2 + 1) := Nat.lt_log2_self
    have lb : (mg a).log2 ≤ 23 := by
      have := mg_lt a
      rcases Nat.lt_or_ge 23 (mg a).log2 with c | c
      · have : 2 ^ 24 ≤ 2 ^ (mg a).log2 := Nat.pow_le_pow_right (by omega) c
        omega
      · exact c
    obtain ⟨R, g1, g2⟩ := write_number (sg a ^^ sg b) (2 * (mg a * 2 ^ more / mg b) + (mg a * 2 ^ more % mg b != 0).toNat) (-149 + (kk a : Int) - (-149 + (kk b : Int)) - more - 1)
    refine ⟨R, ?_, g2⟩
    have g1 := near_iff.2 g1
    generalize hy : 2 * (mg a * 2 ^ more / mg b) + (mg a * 2 ^ more % mg b != 0).toNat = y at *
    refine near_div (D := mg a * 2 ^ more) (n := mg b) (a := (149 + (kk a : Int) - kk b - more).toNat) (b := (-(149 + (kk a : Int) - kk b - more)).toNat) (s := (mg a * 2 ^ more % mg b != 0).toNat) (by omega) hub (by omega) ?_ ?_ ?_ ?_
    · have h3 : 2 ^ (25 + (mg b).log2) ≤ mg a * 2 ^ more := by
        refine Nat.le_trans ?_ (Nat.mul_le_mul_right _ l1)
        rw [← Nat.pow_add]
        exact Nat.pow_le_pow_right (by omega) (by omega)
      have h4 : 2 ^ (23 + 1) * mg b ≤ 2 ^ (23 + 1) * 2 ^ ((mg b).log2 + 1) := Nat.mul_le_mul_left _ (by omega)
      rw [← Nat.pow_add] at h4
      rw [show 23 + 1 + ((mg b).log2 + 1) = 25 + (mg b).log2 by omega] at h4
      omega
    · rw [U_mg, U_mg]
      generalize hA : (149 + (kk a : Int) - kk b - more).toNat = A
      generalize hB : (-(149 + (kk a : Int) - kk b - more)).toNat = B
      have : 2 ^ (kk a + 149 + B) = 2 ^ (more + A + kk b) := by congr 1; omega
      rw [Nat.pow_add, Nat.pow_add, Nat.pow_add, Nat.pow_add] at this
      generalize 2 ^ kk a = x1 at *
      generalize 2 ^ 149 = x2 at *
      generalize 2 ^ B = x3 at *
      generalize 2 ^ more = x4 at *
      generalize 2 ^ A = x5 at *
      generalize 2 ^ kk b = x6 at *
      calc mg a * x1 * x2 * mg b * x3 = mg a * mg b * (x1 * x2 * x3) := by grind
        _ = mg a * mg b * (x4 * x5 * x6) := by rw [this]
        _ = _ := by grind
    · by_cases c : mg a * 2 ^ more % mg b = 0 <;> simp [c]
    · rw [hy]
      -- one unit less in the place: doubled
      have := (Near.scale (f := 23) (r := R) (p := y * 2 ^ (-149 + (kk a : Int) - (-149 + (kk b : Int)) - more - 1 + 149).toNat) (q := 2 ^ (-149 - (-149 + (kk a : Int) - (-149 + (kk b : Int)) - more - 1)).toNat) 2 (by omega)).2 g1
      rcases Int.lt_or_le 0 (149 + (kk a : Int) - kk b - more) with c | c
      · rw [show (-149 - (-149 + (kk a : Int) - (-149 + (kk b : Int)) - more - 1)).toNat = 0 by omega] at this
        rw [show (-(149 + (kk a : Int) - kk b - more)).toNat = 0 by omega, show (149 + (kk a : Int) - kk b - more).toNat = (-149 + (kk a : Int) - (-149 + (kk b : Int)) - more - 1 + 149).toNat + 1 by omega, Nat.pow_succ, ← Nat.mul_assoc]
        simpa using this
      · rw [show (-149 + (kk a : Int) - (-149 + (kk b : Int)) - more - 1 + 149).toNat = 0 by omega] at g1
        rw [show (149 + (kk a : Int) - kk b - more).toNat = 0 by omega]
        rw [show (-149 - (-149 + (kk a : Int) - (-149 + (kk b : Int)) - more - 1)).toNat = (-(149 + (kk a : Int) - kk b - more)).toNat + 1 by omega, Nat.pow_succ, Nat.mul_comm _ 2] at g1
        exact g1
end Lathe

namespace Lathe
open Ieee Go

def fsqrt (a : Nat) : Nat := res (single.sqrt a)

theorem rootFrom_spec (n : Nat) : ∀ (todo r : Nat), r * r ≤ n → n < (r + 2 ^ todo) * (r + 2 ^ todo) →
    (Datum.rootFrom n todo r) * (Datum.rootFrom n todo r) ≤ n ∧ n < (Datum.rootFrom n todo r + 1) * (Datum.rootFrom n todo r + 1)
  | 0, r, h1, h2 => by simpa [Datum.rootFrom] using And.intro h1 h2
  | todo + 1, r, h1, h2 => by
    unfold Datum.rootFrom
    simp only [Nat.shiftLeft_eq, Nat.one_mul]
    split
    · rename_i c
      refine rootFrom_spec n todo _ c ?_
      rw [Nat.add_assoc, show 2 ^ todo + 2 ^ todo = 2 ^ (todo + 1) by rw [Nat.pow_succ]; omega]
      exact h2
    · rename_i c
      exact rootFrom_spec n todo _ h1 (by omega)

theorem root_spec (n : Nat) : (Datum.rootFrom n (n.log2 / 2 + 1) 0) * (Datum.rootFrom n (n.log2 / 2 + 1) 0) ≤ n ∧ n < (Datum.rootFrom n (n.log2 / 2 + 1) 0 + 1) * (Datum.rootFrom n (n.log2 / 2 + 1) 0 + 1) := by
  refine rootFrom_spec n _ 0 (by omega) ?_
  have l2 : n < 2 ^ (n.log2 + 1) := Nat.lt_log2_self
  rw [Nat.zero_add, ← Nat.pow_add]
  exact Nat.lt_of_lt_of_le l2 (Nat.pow_le_pow_right (by omega) (by omega))

/-- What a root of so many digits is rounded to, in whatever format: the model's own way. -/
theorem near_sqrt {f : Nat} {m : Nat} {i L : Int} (hm : m ≠ 0) (digits : Nat) (hd : f + 2 ≤ digits) (hml : m.log2 ≤ 2 * digits) (hi : 2 * L + 2 + (2 * digits + 1) ≤ i + m.log2 ) (more : Nat)
    (hmore : more = 2 * digits - m.log2 + ((i - (2 * digits - m.log2 : Nat)) % 2).toNat) (w : Nat) (hw : w = Datum.rootFrom (m <<< more) ((m <<< more).log2 / 2 + 1) 0) (r : Nat)
    (h : Near f r ((2 * w + (w * w != m <<< more).toNat) * 2 ^ ((i - more) / 2 - 1 - L).toNat) 1) : NearC f r (cs (m * 2 ^ (i - 2 * L).toNat)) := by
  have hn0 : m <<< more ≠ 0 := by
    rw [Nat.shiftLeft_eq]
    exact Nat.mul_ne_zero hm (Nat.ne_of_gt (Nat.two_pow_pos _))
  obtain ⟨s1, s2⟩ := root_spec (m <<< more)
  rw [← hw] at s1 s2
  have l1 : 2 ^ m.log2 ≤ m := Nat.log2_self_le hm
  have hbig : 2 ^ (f + 1) * 2 ^ (f + 1) ≤ m <<< more := by
    rw [Nat.shiftLeft_eq, ← Nat.pow_add]
    refine Nat.le_trans ?_ (Nat.mul_le_mul_right _ l1)
    rw [← Nat.pow_add]
    exact Nat.pow_le_pow_right (by omega) (by omega)
  have heven : (i - more) % 2 = 0 := by omega
  refine near_root (a := ((i - more) / 2 - L).toNat) (s := (w * w != m <<< more).toNat) s1 s2 hbig ?_ ?_ ?_
  · rw [Nat.shiftLeft_eq, Nat.mul_assoc, ← Nat.pow_add, ← Nat.pow_add]
    congr 2
    omega
  · by_cases c : w * w = m <<< more <;> simp [c]
  · have := (Near.scale (f := f) (r := r) (p := (2 * w + (w * w != m <<< more).toNat) * 2 ^ ((i - more) / 2 - 1 - L).toNat) (q := 1) 2 (by omega)).2 h
    rw [show ((i - more) / 2 - L).toNat = ((i - more) / 2 - 1 - L).toNat + 1 by omega, Nat.pow_succ, ← Nat.mul_assoc]
    simpa using this

theorem log_mg (a : Nat) : (mg a).log2 ≤ 23 := by
  have := mg_lt a
  rcases Nat.lt_or_ge 23 (mg a).log2 with c | c
  · have : 2 ^ 24 ≤ 2 ^ (mg a).log2 := Nat.pow_le_pow_right (by omega) c
    have h : mg a ≠ 0 := by
      intro h
      rw [h] at c
      simp at c
    have := Nat.log2_self_le h
    omega
  · exact c

/-- The root of a number above 0. -/
theorem fsqrt_fin {a : Nat} (ha : rg a < 2139095040) (hz : rg a ≠ 0) (hs : sg a = false) : Is false (cs (U 23 (rg a) * 2 ^ 149)) (fsqrt a) := by
  unfold fsqrt Format.sqrt
  rw [read_fin ha, hs]
  have hm : mg a ≠ 0 := by rw [ne_eq, mg_zero]; exact hz
  simp only [Datum.root, if_neg hm, Bool.false_eq_true, if_false, Option.map_some, res, Option.getD_some]
  have hm25 : single.fractionBits + 2 = 25 := by decide
  rw [hm25]
  have lg := log_mg a
  generalize hmore : 2 * 25 - (mg a).log2 + ((-149 + (kk a : Int) - (2 * 25 - (mg a).log2 : Nat)) % 2).toNat = more
  generalize hw : Datum.rootFrom (mg a <<< more) ((mg a <<< more).log2 / 2 + 1) 0 = w
  obtain ⟨R, g1, g2⟩ := write_number false (2 * w + (w * w != mg a <<< more).toNat) ((-149 + (kk a : Int) - more) / 2 - 1)
  refine ⟨R, ?_, g2⟩
  have g1 := near_iff.2 g1
  have := near_sqrt (f := 23) (i := -149 + (kk a : Int)) (L := -149) hm 25 (by omega) (by omega) (by omega) more hmore.symm w hw.symm R ?_
  · rw [U_mg, Nat.mul_assoc, ← Nat.pow_add]
    rw [show (-149 + (kk a : Int) - 2 * -149).toNat = kk a + 149 by omega] at this
    exact this
  · rw [show (-149 - ((-149 + (kk a : Int) - more) / 2 - 1)).toNat = 0 by omega, Nat.pow_zero] at g1
    rw [show (-149 + (kk a : Int) - more) / 2 - 1 - -149 = (-149 + (kk a : Int) - more) / 2 - 1 + 149 by omega]
    exact g1

/-! ### the patterns that are no numbers -/
theorem order_self {a : Nat} (h : rg a ≤ 2139095040) : single.order a a = some .eq := by
  unfold Format.order
  rcases Nat.lt_or_ge (rg a) 2139095040 with c | c
  · rw [read_fin c]
    simp [Datum.order]
  · rw [read_inf (by omega)]
    simp [Datum.order]
theorem order_nan {a : Nat} (h : 2139095040 < rg a) (b : Nat) : single.order a b = none ∧ single.order b a = none := by
  unfold Format.order
  rw [read_nan h]
  constructor
  · rfl
  · cases single.read b <;> rfl
theorem tl_num {a : Nat} (h : rg a ≤ 2139095040) : tl a = a := by simp [tl, order_self h]
theorem tl_nan {a : Nat} (h : 2139095040 < rg a) : tl a = 2143289344 := by simp [tl, (order_nan h a).1]

theorem rg_write (d : Datum) (h : d.isNaN = false) : rg (single.write d) ≤ 2139095040 := by
  cases d with
  | number s m p =>
    obtain ⟨R, _, h⟩ := write_number s m p
    rw [h, rg_pk (by omega)]
    omega
  | infinity s =>
    show rg (single.word s single.infRung) ≤ _
    rw [word_, inf_rung, rg_pk (by omega)]
    omega
  | nan s t => simp [Datum.isNaN] at h

theorem sum_nan {d e x : Datum} (h : d.sum e = some x) : x.isNaN = false := by
  unfold Datum.sum at h
  split at h <;> first | (simp at h; done) | (split at h <;> simp at h; subst h; rfl) | (simp at h; subst h; rfl)
theorem product_nan {d e x : Datum} (h : d.product e = some x) : x.isNaN = false := by
  unfold Datum.product at h
  split at h <;> first | (simp at h; done) | (split at h <;> simp at h; subst h; rfl) | (simp at h; subst h; rfl)
theorem quotient_nan {k : Nat} {d e x : Datum} (h : d.quotient k e = some x) : x.isNaN = false := by
  unfold Datum.quotient at h
  split at h
  all_goals first | (simp at h; done) | (simp at h; subst h; rfl) | skip
  split at h
  · split at h <;> simp at h
    subst h; rfl
  · simp at h
    subst h; rfl
theorem root_nan {k : Nat} {d x : Datum} (h : d.root k = some x) : x.isNaN = false := by
  unfold Datum.root at h
  split at h
  all_goals first | (simp at h; done) | skip
  · split at h <;> simp at h
    subst h; rfl
  · split at h
    · simp at h; subst h; rfl
    · split at h
      · simp at h
      · simp at h; subst h; rfl

theorem rg_map {o : Option Datum} {r : Nat} (ho : ∀ x, o = some x → x.isNaN = false) (h : o.map single.write = some r) : rg r ≤ 2139095040 := by
  cases o with
  | none => simp at h
  | some d => simp at h; subst h; exact rg_write d (ho d rfl)

/-- What is told of an answer, drawn or not. -/
theorem tl_res {o : Option Nat} (ho : ∀ r, o = some r → rg r ≤ 2139095040) {x : Nat} (hx : o = some x ∨ o = none ∧ 2139095040 < rg x) : tl x = res o := by
  rcases hx with rfl | ⟨rfl, h⟩
  · rw [tl_num (ho x rfl)]; rfl
  · rw [tl_nan h]; rfl

/-- A NaN that is drawn is one. -/
theorem rg_cut (t : Nat) : 2139095040 < rg (t % 2 * 2 ^ 31 + 0x7f800000 + 1 + t / 2 % (2 ^ 23 - 1)) := by
  unfold rg
  have h1 : t / 2 % (2 ^ 23 - 1) < 2 ^ 23 - 1 := Nat.mod_lt _ (by decide)
  generalize t / 2 % (2 ^ 23 - 1) = z at *
  simp only [show (2 : Nat) ^ 31 = 2147483648 from rfl, show (2 : Nat) ^ 23 = 8388608 from rfl] at *
  omega
end Lathe

namespace Lathe
open Go Ieee

/-- An operation's bits in a world: where it has no answer a NaN is drawn. -/
def fw (o : Option Nat) (q : Question) (w : World) : Nat := match o with
  | some r => r
  | none => q.cut (w.tape w.drawn q)
/-- How often it draws. -/
def fn (o : Option Nat) : Nat := match o with
  | some _ => 0
  | none => 1

/-- The lesser's bits, the greater's. -/
def fmin? (x y : Nat) : Option Nat := match single.order x y with
  | none => none
  | some .lt => some x
  | some .gt => some y
  | some .eq => some (if (single.read x).neg then x else y)
def fmax? (x y : Nat) : Option Nat := match single.order x y with
  | none => none
  | some .lt => some y
  | some .gt => some x
  | some .eq => some (if (single.read x).neg then y else x)

section
variable {P : Program} (w : World)
theorem run_f32_add (t : TypeId) (x y : Nat) : (binOp .add t (.float .f32 x) (.float .f32 y)).run P w = .ok (.float .f32 (fw (single.add x y) (.nanBits .f32 x y) w)) (w.drewN (fn (single.add x y))) := by
  cases h : single.add x y <;> simp [binOp, Op.floatArith, fw, fn, FloatKind.format, h, choose, Question.forced, Sem.run] <;> rfl
theorem run_f32_sub (t : TypeId) (x y : Nat) : (binOp .sub t (.float .f32 x) (.float .f32 y)).run P w = .ok (.float .f32 (fw (single.sub x y) (.nanBits .f32 x y) w)) (w.drewN (fn (single.sub x y))) := by
  cases h : single.sub x y <;> simp [binOp, Op.floatArith, fw, fn, FloatKind.format, h, choose, Question.forced, Sem.run] <;> rfl
theorem run_f32_mul (t : TypeId) (x y : Nat) : (binOp .mul t (.float .f32 x) (.float .f32 y)).run P w = .ok (.float .f32 (fw (single.mul x y) (.nanBits .f32 x y) w)) (w.drewN (fn (single.mul x y))) := by
  cases h : single.mul x y <;> simp [binOp, Op.floatArith, fw, fn, FloatKind.format, h, choose, Question.forced, Sem.run] <;> rfl
theorem run_f32_div (t : TypeId) (x y : Nat) : (binOp .quo t (.float .f32 x) (.float .f32 y)).run P w = .ok (.float .f32 (fw (single.div x y) (.nanBits .f32 x y) w)) (w.drewN (fn (single.div x y))) := by
  cases h : single.div x y <;> simp [binOp, Op.floatArith, fw, fn, FloatKind.format, h, choose, Question.forced, Sem.run] <;> rfl
theorem run_f32_min (ts : Array TypeId) (t : TypeId) (x y : Nat) : (Builtin.min_ ts t #[.float .f32 x, .float .f32 y]).run P w = .ok (.float .f32 (fw (fmin? x y) (.nanMinMax .f32 false x y) w)) (w.drewN (fn (fmin? x y))) := by
  cases h : single.order x y with
  | none => simp [Builtin.min_, Builtin.min2, fmin?, fw, fn, FloatKind.format, h, choose, Question.forced, Sem.run]; rfl
  | some o => cases o <;> simp [Builtin.min_, Builtin.min2, fmin?, fw, fn, FloatKind.format, FloatKind.decode, h] <;> first | rfl | exact ⟨rfl, rfl⟩
theorem run_f32_max (ts : Array TypeId) (t : TypeId) (x y : Nat) : (Builtin.max_ ts t #[.float .f32 x, .float .f32 y]).run P w = .ok (.float .f32 (fw (fmax? x y) (.nanMinMax .f32 true x y) w)) (w.drewN (fn (fmax? x y))) := by
  cases h : single.order x y with
  | none => simp [Builtin.max_, Builtin.max2, fmax?, fw, fn, FloatKind.format, h, choose, Question.forced, Sem.run]; rfl
  | some o => cases o <;> simp [Builtin.max_, Builtin.max2, fmax?, fw, fn, FloatKind.format, FloatKind.decode, h] <;> first | rfl | exact ⟨rfl, rfl⟩
theorem run_f32_neg (x : Nat) : (Op.unary .neg (.float .f32 x)).run P w = .ok (.float .f32 (x ^^^ 2147483648)) w := rfl
end

/-! ### what is told -/
theorem add_ok {x y r : Nat} (h : single.add x y = some r) : rg r ≤ 2139095040 := rg_map (fun _ e => sum_nan e) h
theorem sub_ok {x y r : Nat} (h : single.sub x y = some r) : rg r ≤ 2139095040 := rg_map (fun _ e => sum_nan e) h
theorem mul_ok {x y r : Nat} (h : single.mul x y = some r) : rg r ≤ 2139095040 := rg_map (fun _ e => product_nan e) h
theorem div_ok {x y r : Nat} (h : single.div x y = some r) : rg r ≤ 2139095040 := rg_map (fun _ e => quotient_nan e) h
theorem sqrt_ok {x r : Nat} (h : single.sqrt x = some r) : rg r ≤ 2139095040 := rg_map (fun _ e => root_nan e) h
theorem order_ok {x y : Nat} {o : Ordering} (h : single.order x y = some o) : rg x ≤ 2139095040 ∧ rg y ≤ 2139095040 := by
  constructor
  · rcases Nat.lt_or_ge 2139095040 (rg x) with c | c
    · rw [(order_nan c y).1] at h; cases h
    · exact c
  · rcases Nat.lt_or_ge 2139095040 (rg y) with c | c
    · rw [(order_nan c x).2] at h; cases h
    · exact c
theorem min_ok {x y r : Nat} (h : fmin? x y = some r) : rg r ≤ 2139095040 := by
  unfold fmin? at h
  cases e : single.order x y with
  | none => rw [e] at h; cases h
  | some o =>
    obtain ⟨h1, h2⟩ := order_ok e
    rw [e] at h
    cases o <;> simp at h
    · subst h; exact h1
    · subst h; split
      · exact h1
      · exact h2
    · subst h; exact h2
theorem max_ok {x y r : Nat} (h : fmax? x y = some r) : rg r ≤ 2139095040 := by
  unfold fmax? at h
  cases e : single.order x y with
  | none => rw [e] at h; cases h
  | some o =>
    obtain ⟨h1, h2⟩ := order_ok e
    rw [e] at h
    cases o <;> simp at h
    · subst h; exact h2
    · subst h; split
      · exact h2
      · exact h1
    · subst h; exact h1

theorem tl_fw {o : Option Nat} (ho : ∀ r, o = some r → rg r ≤ 2139095040) (x y : Nat) (w : World) : tl (fw o (.nanBits .f32 x y) w) = res o := by
  cases o with
  | some r => exact tl_res ho (.inl rfl)
  | none => exact tl_res ho (.inr ⟨rfl, rg_cut _⟩)
theorem tl_fw' {o : Option Nat} (ho : ∀ r, o = some r → rg r ≤ 2139095040) (b : Bool) (x y : Nat) (w : World) : tl (fw o (.nanMinMax .f32 b x y) w) = res o := by
  cases o with
  | some r => exact tl_res ho (.inl rfl)
  | none => exact tl_res ho (.inr ⟨rfl, rg_cut _⟩)
theorem tl_add (x y : Nat) (w : World) : tl (fw (single.add x y) (.nanBits .f32 x y) w) = fadd x y := tl_fw (fun _ => add_ok) ..
theorem tl_sub (x y : Nat) (w : World) : tl (fw (single.sub x y) (.nanBits .f32 x y) w) = fsub x y := tl_fw (fun _ => sub_ok) ..
theorem tl_mul (x y : Nat) (w : World) : tl (fw (single.mul x y) (.nanBits .f32 x y) w) = fmul x y := tl_fw (fun _ => mul_ok) ..
theorem tl_div (x y : Nat) (w : World) : tl (fw (single.div x y) (.nanBits .f32 x y) w) = fdiv x y := tl_fw (fun _ => div_ok) ..

def fmin (x y : Nat) : Nat := res (fmin? x y)
def fmax (x y : Nat) : Nat := res (fmax? x y)
theorem tl_min (x y : Nat) (w : World) : tl (fw (fmin? x y) (.nanMinMax .f32 false x y) w) = fmin x y := tl_fw' (fun _ => min_ok) ..
theorem tl_max (x y : Nat) (w : World) : tl (fw (fmax? x y) (.nanMinMax .f32 true x y) w) = fmax x y := tl_fw' (fun _ => max_ok) ..

/-! ### which NaN comes in makes no difference -/
theorem tl_tl (x : Nat) : tl (tl x) = tl x := by
  rcases Nat.lt_or_ge 2139095040 (rg x) with c | c
  · rw [tl_nan c]; decide
  · rw [tl_num c, tl_num c]
theorem read_tl (x : Nat) : single.read (tl x) = single.read x ∨ (∃ s z, single.read (tl x) = .nan s z) ∧ ∃ s z, single.read x = .nan s z := by
  rcases Nat.lt_or_ge 2139095040 (rg x) with c | c
  · right
    rw [tl_nan c]
    exact ⟨⟨_, _, read_nan (a := 2143289344) (by decide)⟩, _, _, read_nan c⟩
  · left
    rw [tl_num c]
theorem opposite_nan (s : Bool) (z : Nat) : (Datum.nan s z).opposite = .nan (!s) z := rfl
theorem sum_nanr (d : Datum) (s : Bool) (z : Nat) : d.sum (.nan s z) = none := by cases d <;> rfl
theorem product_nanr (d : Datum) (s : Bool) (z : Nat) : d.product (.nan s z) = none := by cases d <;> rfl
theorem quotient_nanr (k : Nat) (d : Datum) (s : Bool) (z : Nat) : d.quotient k (.nan s z) = none := by cases d <;> rfl
theorem fadd_tl (x y : Nat) : fadd (tl x) (tl y) = fadd x y := by
  unfold fadd Format.add
  rcases read_tl x with h | ⟨⟨s, z, h⟩, t, z', h'⟩
  · rw [h]
    rcases read_tl y with h | ⟨⟨s, z, h⟩, t, z', h'⟩
    · rw [h]
    · rw [h, h', sum_nanr, sum_nanr]
  · rw [h, h']; rfl
theorem fsub_tl (x y : Nat) : fsub (tl x) (tl y) = fsub x y := by
  unfold fsub Format.sub
  rcases read_tl x with h | ⟨⟨s, z, h⟩, t, z', h'⟩
  · rw [h]
    rcases read_tl y with h | ⟨⟨s, z, h⟩, t, z', h'⟩
    · rw [h]
    · rw [h, h', opposite_nan, opposite_nan, sum_nanr, sum_nanr]
  · rw [h, h']; rfl
theorem fmul_tl (x y : Nat) : fmul (tl x) (tl y) = fmul x y := by
  unfold fmul Format.mul
  rcases read_tl x with h | ⟨⟨s, z, h⟩, t, z', h'⟩
  · rw [h]
    rcases read_tl y with h | ⟨⟨s, z, h⟩, t, z', h'⟩
    · rw [h]
    · rw [h, h', product_nanr, product_nanr]
  · rw [h, h']; rfl
theorem fdiv_tl (x y : Nat) : fdiv (tl x) (tl y) = fdiv x y := by
  unfold fdiv Format.div
  rcases read_tl x with h | ⟨⟨s, z, h⟩, t, z', h'⟩
  · rw [h]
    rcases read_tl y with h | ⟨⟨s, z, h⟩, t, z', h'⟩
    · rw [h]
    · rw [h, h', quotient_nanr, quotient_nanr]
  · rw [h, h']; rfl

/-- A sign turned. -/
def flip (x : Nat) : Nat := x ^^^ 2147483648
def fneg (x : Nat) : Nat := tl (flip x)
def fabs (x : Nat) : Nat := tl (rg x)
def flt (x y : Nat) : Bool := single.order x y == some .lt
def feq (x y : Nat) : Bool := single.order x y == some .eq
/-- Is it neither a nought nor a NaN? -/
def fyes (x : Nat) : Bool := flt x 0 || single.order x 0 == some .gt
def fsel (c a b : Nat) : Nat := if fyes c then tl a else tl b
def fint (n : Int) : Nat := single.write (.number (n < 0) n.natAbs 0)
end Lathe
