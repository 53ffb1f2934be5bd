/- The root by way of binary64 is the root. No condition. -/
import Derived.Test.YtmfladkimmnccaaDoorFpa

namespace Lathe
open Ieee

theorem U_pred (f k n : Nat) (h1 : n < 2 ^ (f + 1)) (h2 : k = 0 ∨ 2 ^ f ≤ n) (h : 0 < k * 2 ^ f + n) : n * 2 ^ k ≤ U f (k * 2 ^ f + n - 1) + 2 ^ k := by
  have hF := Nat.two_pow_pos f
  have e3 : 2 ^ (f + 1) = 2 * 2 ^ f := by rw [Nat.pow_succ]; omega
  by_cases b : 0 < k ∧ n = 2 ^ f
  · obtain ⟨b1, rfl⟩ := b
    obtain ⟨j, rfl⟩ : ∃ j, k = j + 1 := ⟨k - 1, by omega⟩
    have v : U f ((j + 1) * 2 ^ f + 2 ^ f - 1) = (2 * 2 ^ f - 1) * 2 ^ j := by
      rw [show (j + 1) * 2 ^ f + 2 ^ f - 1 = j * 2 ^ f + (2 * 2 ^ f - 1) by rw [Nat.add_mul]; omega]
      exact U_form f j _ (by omega) (by omega)
    rw [v]
    obtain ⟨g, hg⟩ : ∃ g, 2 ^ f = g + 1 := ⟨2 ^ f - 1, by omega⟩
    rw [hg, Nat.pow_succ, show 2 * (g + 1) - 1 = 2 * g + 1 by omega]
    have : (2 * g + 1) * 2 ^ j + 2 ^ j * 2 = (g + 1) * (2 ^ j * 2) + 2 ^ j := by grind
    omega
  · have hn : 1 ≤ n := by
      rcases h2 with h2 | h2
      · rw [h2, Nat.zero_mul] at h; omega
      · omega
    have v : U f (k * 2 ^ f + n - 1) = (n - 1) * 2 ^ k := by
      rw [show k * 2 ^ f + n - 1 = k * 2 ^ f + (n - 1) by omega]
      exact U_form f k _ (by omega) (by omega)
    rw [v, ← Nat.succ_mul, show (n - 1).succ = n by omega]
    exact Nat.le_refl _

theorem dbl_least : double.leastPlace = -1074 := by decide
theorem dbl_inf : double.infRung = 9218868437227405312 := by decide
theorem dbl_sign : double.signWeight = 9223372036854775808 := by decide
theorem dbl_binade : double.binade = 2 ^ 52 := by decide

/-- Between a root and a middle of binary32 there is room. -/
theorem root_room {m i n k c : Nat} (hm : m < 2 ^ 24) (hk : k = 0 ∨ 2 ^ 23 ≤ n) (h0 : 2 * c + 1 ≤ i) :
    m * 2 ^ i + 2 ^ (2 * k + 2 * c) ≤ (2 * n + 1) * 2 ^ (k + c) * ((2 * n + 1) * 2 ^ (k + c)) ∨ (2 * n + 1) * 2 ^ (k + c) * ((2 * n + 1) * 2 ^ (k + c)) + 2 ^ (2 * k + 2 * c) ≤ m * 2 ^ i := by
  have e1 : (2 * n + 1) * 2 ^ (k + c) * ((2 * n + 1) * 2 ^ (k + c)) = (2 * n + 1) * (2 * n + 1) * 2 ^ (2 * k + 2 * c) := by
    have : 2 ^ (2 * k + 2 * c) = 2 ^ (k + c) * 2 ^ (k + c) := by rw [← Nat.pow_add]; congr 1; omega
    rw [this]; grind
  rw [e1]
  have hodd : (2 * n + 1) * (2 * n + 1) = 2 * (2 * n * n + 2 * n) + 1 := by grind
  rcases Nat.lt_or_ge (2 * k + 2 * c) i with d0 | d
  · obtain ⟨d, rfl⟩ : ∃ d', i = d' + 1 + (2 * k + 2 * c) := ⟨i - (2 * k + 2 * c) - 1, by omega⟩
    have e2 : m * 2 ^ (d + 1 + (2 * k + 2 * c)) = 2 * (m * 2 ^ d) * 2 ^ (2 * k + 2 * c) := by rw [Nat.pow_add, Nat.pow_succ]; grind
    rw [e2]
    rcases Nat.lt_or_ge (2 * (m * 2 ^ d)) ((2 * n + 1) * (2 * n + 1)) with h | h
    · left
      rw [← Nat.succ_mul]
      exact Nat.mul_le_mul_right _ h
    · right
      rw [← Nat.succ_mul]
      refine Nat.mul_le_mul_right _ ?_
      omega
  · left
    have hk : 2 ^ 23 ≤ n := by omega
    have h1 : 2 ^ i ≤ 2 ^ (2 * k + 2 * c) := Nat.pow_le_pow_right (by omega) d
    have h2 : m * 2 ^ i ≤ m * 2 ^ (2 * k + 2 * c) := Nat.mul_le_mul_left _ h1
    have h3 : (m + 1) * 2 ^ (2 * k + 2 * c) ≤ (2 * n + 1) * (2 * n + 1) * 2 ^ (2 * k + 2 * c) := by
      refine Nat.mul_le_mul_right _ ?_
      have := Nat.mul_le_mul (show 2 ^ 24 ≤ 2 * n + 1 by omega) (show 2 ^ 24 ≤ 2 * n + 1 by omega)
      omega
    rw [Nat.add_mul, Nat.one_mul] at h3
    omega

/-- The double nearest to a root lies to the middles of binary32 as the root does. -/
theorem dbl_side {m i S t c : Nat} (hm : m < 2 ^ 24) (hc : 52 ≤ c) (h0 : 2 * c + 1 ≤ i) (hS : NearC 52 S (cs (m * 2 ^ i))) :
    (hi 23 t * 2 ^ c < U 52 S ∧ hi 23 t * 2 ^ c * (hi 23 t * 2 ^ c) < m * 2 ^ i) ∨ (U 52 S < hi 23 t * 2 ^ c ∧ m * 2 ^ i < hi 23 t * 2 ^ c * (hi 23 t * 2 ^ c)) := by
  obtain ⟨k, n, rfl, h1, h2⟩ := form 23 t
  have hM : hi 23 (k * 2 ^ 23 + n) = (2 * n + 1) * 2 ^ k := by
    unfold Lathe.hi
    rw [U_form 23 k n (by omega) h2, U_succ 23 k n h1 h2, ← Nat.add_mul]
    congr 1; omega
  rw [hM, Nat.mul_assoc, ← Nat.pow_add]
  have room := root_room hm h2 h0
  -- X, the middle in the double's units, and its rung
  have hn0 : 2 * n + 1 ≠ 0 := by omega
  have l1 := Nat.log2_self_le hn0
  have l2 : 2 * n + 1 < 2 ^ ((2 * n + 1).log2 + 1) := Nat.lt_log2_self
  generalize (2 * n + 1).log2 = g at *
  have hg : g ≤ 24 := by
    rcases Nat.lt_or_ge 24 g with c | c
    · have : 2 ^ 25 ≤ 2 ^ g := Nat.pow_le_pow_right (by omega) c
      omega
    · exact c
  obtain ⟨z, hz⟩ : ∃ z, z + g = 52 := ⟨52 - g, by omega⟩
  obtain ⟨κ, hκ⟩ : ∃ κ, κ + z = k + c := ⟨k + c - z, by omega⟩
  have hN : (2 * n + 1) * 2 ^ (k + c) = (2 * n + 1) * 2 ^ z * 2 ^ κ := by rw [← hκ, Nat.mul_assoc, ← Nat.pow_add, Nat.add_comm z]
  have n1 : 2 ^ 52 ≤ (2 * n + 1) * 2 ^ z := by
    rw [← hz, Nat.pow_add, Nat.mul_comm (2 ^ z)]
    exact Nat.mul_le_mul_right _ l1
  have n2 : (2 * n + 1) * 2 ^ z < 2 ^ (52 + 1) := by
    rw [← hz, show z + g + 1 = g + 1 + z by omega, Nat.pow_add _ (g + 1)]
    exact Nat.mul_lt_mul_of_pos_right l2 (Nat.two_pow_pos z)
  have hodd : (2 * n + 1) * (2 * n + 1) ≤ 2 ^ 50 := by
    have := Nat.mul_le_mul (show 2 * n + 1 ≤ 2 ^ 25 by omega) (show 2 * n + 1 ≤ 2 ^ 25 by omega)
    omega
  have hsq : (2 * n + 1) * 2 ^ (k + c) * ((2 * n + 1) * 2 ^ (k + c)) ≤ 2 ^ 50 * 2 ^ (2 * k + 2 * c) := by
    have : 2 ^ (2 * k + 2 * c) = 2 ^ (k + c) * 2 ^ (k + c) := by rw [← Nat.pow_add]; congr 1; omega
    rw [this]
    calc (2 * n + 1) * 2 ^ (k + c) * ((2 * n + 1) * 2 ^ (k + c)) = (2 * n + 1) * (2 * n + 1) * (2 ^ (k + c) * 2 ^ (k + c)) := by grind
      _ ≤ _ := Nat.mul_le_mul_right _ hodd
  have hδ : 0 < 2 ^ (2 * k + 2 * c) := Nat.two_pow_pos _
  generalize (2 * n + 1) * 2 ^ z = N at *
  have u0 := U_form 52 κ N (by omega) (.inr n1)
  have u1 := U_succ 52 κ N n2 (.inr n1)
  have u2 := U_pred 52 κ N n2 (.inr n1) (by omega)
  rw [Nat.add_mul, Nat.one_mul] at u1
  have e0 : 2 ^ 52 * 2 ^ κ ≤ N * 2 ^ κ := Nat.mul_le_mul_right _ n1
  rw [← hN] at u0 u1 u2 e0
  have rpos : 0 < κ * 2 ^ 52 + N := by omega
  obtain ⟨Rx, hR⟩ : ∃ x, x = κ * 2 ^ 52 + N := ⟨_, rfl⟩
  obtain ⟨X, hX⟩ : ∃ x, x = (2 * n + 1) * 2 ^ (k + c) := ⟨_, rfl⟩
  obtain ⟨δ, hd⟩ : ∃ x, x = 2 ^ (2 * k + 2 * c) := ⟨_, rfl⟩
  obtain ⟨P, hP⟩ : ∃ x, x = m * 2 ^ i := ⟨_, rfl⟩
  obtain ⟨e, he⟩ : ∃ x, x = 2 ^ κ := ⟨_, rfl⟩
  rw [← hR] at u0 u1 u2 rpos
  rw [← hX] at u0 u1 u2 e0 room hsq ⊢
  rw [← hd] at room hsq hδ
  rw [← hP] at room hS ⊢
  rw [← he] at u1 u2 e0
  clear hM h1 h2 hn0 l1 l2 hN n1 n2 hodd hm h0 hκ hz hg hR hX hd hP he
  -- 4 X e ≤ δ
  have small : 4 * (X * e) ≤ δ := by
    have a1 : X * (2 ^ 52 * e) ≤ X * X := Nat.mul_le_mul_left _ e0
    have a2 : X * (2 ^ 52 * e) = 2 ^ 52 * (X * e) := by grind
    omega
  have ee : e * e ≤ X * e := Nat.mul_le_mul_right _ (by omega)
  unfold NearC cs at hS
  rcases room with room | room
  · right
    refine ⟨?_, by omega⟩
    rcases Nat.lt_or_ge S Rx with d | d
    · rw [← u0]; exact U_mono d
    · exfalso
      have a1 : lo 52 S * lo 52 S ≤ 4 * P := by
        rcases hS.1 with h | h | ⟨h, _⟩
        · omega
        · rw [Nat.compare_eq_lt] at h; omega
        · rw [Nat.compare_eq_eq] at h; omega
      have a2 : 2 * X ≤ lo 52 S + e := by
        have b1 := U_le (f := 52) (r := Rx - 1) (s := S - 1) (by omega)
        have b2 := U_le (f := 52) d
        unfold lo
        omega
      generalize lo 52 S = L at *
      have a3 : 2 * X * (2 * X) ≤ (L + e) * (L + e) := Nat.mul_le_mul a2 a2
      have a7 : 2 * X * (2 * X) = 4 * (X * X) := by grind
      rcases Nat.lt_or_ge (2 * X) L with b | b
      · have := Nat.mul_lt_mul'' b b
        omega
      · have a4 : (L + e) * (L + e) = L * L + 2 * (L * e) + e * e := by grind
        have a5 : L * e ≤ 2 * X * e := Nat.mul_le_mul_right _ b
        have a6 : 2 * X * e = 2 * (X * e) := by grind
        omega
  · left
    refine ⟨?_, by omega⟩
    rcases Nat.lt_or_ge Rx S with d | d
    · rw [← u0]; exact U_mono d
    · exfalso
      have a1 : 4 * P ≤ hi 52 S * hi 52 S := by
        rcases hS.2 with h | ⟨h, _⟩
        · rw [Nat.compare_eq_gt] at h; omega
        · rw [Nat.compare_eq_eq] at h; omega
      have a2 : hi 52 S ≤ 2 * X + e := by
        have b1 := U_le (f := 52) (r := S + 1) (s := Rx + 1) (by omega)
        have b2 := U_le (f := 52) d
        unfold hi
        omega
      generalize hi 52 S = L at *
      have a3 : L * L ≤ (2 * X + e) * (2 * X + e) := Nat.mul_le_mul a2 a2
      have a4 : (2 * X + e) * (2 * X + e) = 4 * (X * X) + 4 * (X * e) + e * e := by grind
      omega
end Lathe

namespace Lathe
open Ieee Go

theorem dbl_word (s : Bool) {R : Nat} (h : R ≤ 9218868437227405312) : (R < 9218868437227405312 → ∃ m k : Nat, double.read (double.word s R) = .number s m (-1074 + (k : Int)) ∧ U 52 R = m * 2 ^ k ∧ (R = 0 ↔ m = 0) ∧ m < 2 ^ 53 ∧ k ≤ 2045) ∧
    (R = 9218868437227405312 → double.read (double.word s R) = .infinity s) := by
  unfold Format.read Format.word
  simp only [dbl_sign, dbl_binade, dbl_inf, dbl_least]
  have e1 : ((if s = true then 9223372036854775808 + R else R) / 9223372036854775808 % 2 == 1) = s := by
    cases s
    · simp; omega
    · simp; omega
  have e2 : (if s = true then 9223372036854775808 + R else R) % 9223372036854775808 = R := by split <;> omega
  rw [e1, e2]
  constructor
  · intro h
    by_cases c : R < 2 ^ 52
    · rw [if_pos c]
      exact ⟨R, 0, by simp, by simp [U, c], Iff.rfl, by omega, by omega⟩
    · rw [if_neg c, if_pos h]
      have : R % 2 ^ 52 < 2 ^ 52 := Nat.mod_lt _ (by decide)
      have e3 : U 52 R = (2 ^ 52 + R % 2 ^ 52) * 2 ^ (R / 2 ^ 52 - 1) := by unfold U; rw [if_neg c]
      exact ⟨2 ^ 52 + R % 2 ^ 52, R / 2 ^ 52 - 1, rfl, e3, by omega, by omega, by omega⟩
  · rintro rfl
    rw [if_neg (by decide), if_neg (by decide), if_pos rfl]

theorem lt_infRung {R e : Nat} (h : U 52 R < 2 ^ (52 + e)) (he : e ≤ 2045) : R < 9218868437227405312 := by
  have h1 := U_bin 52 e
  have h2 : U 52 R < U 52 ((e + 1) * 2 ^ 52) := by omega
  have h3 := U_lt_iff.1 h2
  have : (e + 1) * 2 ^ 52 ≤ 2046 * 2 ^ 52 := Nat.mul_le_mul_right _ (by omega)
  omega

/-- A single's number is a double's. -/
theorem dbl_write (s : Bool) {m k E : Nat} (hE : E = 925) (hm : m < 2 ^ 24) (hk : k ≤ 253) : ∃ R, double.write (.number s m (-149 + (k : Int))) = double.word s R ∧ R < 9218868437227405312 ∧ U 52 R = m * 2 ^ (k + E) := by
  by_cases h0 : m = 0
  · refine ⟨0, ?_, by decide, by simp [h0, U_zero]⟩
    subst h0
    rfl
  · show ∃ R, double.nearest s m _ = _ ∧ _
    rw [nearest_rung _ _ _ _ h0, dbl_inf]
    have hn := Near.rungOf double (by decide) m (-149 + (k : Int)) h0
    rw [dbl_least, show (-1074 - (-149 + (k : Int))).toNat = 0 by omega, show (-149 + (k : Int) - -1074).toNat = k + E by omega, Nat.pow_zero] at hn
    have hff : double.fractionBits = 52 := rfl
    rw [hff] at hn
    -- the exact rung
    have l1 := Nat.log2_self_le h0
    have l2 : m < 2 ^ (m.log2 + 1) := Nat.lt_log2_self
    generalize hg : m.log2 = g at *
    have hg24 : g < 24 := by
      rcases Nat.lt_or_ge g 24 with c | c
      · exact c
      · have : 2 ^ 24 ≤ 2 ^ g := Nat.pow_le_pow_right (by omega) c
        omega
    obtain ⟨z, hz⟩ : ∃ z, z + g = 52 := ⟨52 - g, by omega⟩
    obtain ⟨κ, hκ⟩ : ∃ κ, κ + z = k + E := ⟨k + E - z, by omega⟩
    have n1 : 2 ^ 52 ≤ m * 2 ^ z := by
      rw [← hz, Nat.pow_add, Nat.mul_comm (2 ^ z)]
      exact Nat.mul_le_mul_right _ l1
    have n2 : m * 2 ^ z < 2 ^ (52 + 1) := by
      rw [← hz, show z + g + 1 = g + 1 + z by omega, Nat.pow_add _ (g + 1)]
      exact Nat.mul_lt_mul_of_pos_right l2 (Nat.two_pow_pos z)
    have u0 := U_form 52 κ (m * 2 ^ z) (by omega) (.inr n1)
    rw [Nat.mul_assoc, ← Nat.pow_add, Nat.add_comm z, hκ] at u0
    have hs := Near.self 52 (κ * 2 ^ 52 + m * 2 ^ z)
    rw [u0] at hs
    have := hn.unique hs (by omega) (by omega) rfl
    have hb : m * 2 ^ (k + E) < 2 ^ (52 + (k + E)) := by
      rw [Nat.pow_add 2 52 (k + E)]
      have hm' : m < 2 ^ 52 := by omega
      exact Nat.mul_lt_mul_of_pos_right hm' (Nat.two_pow_pos (k + E))
    have hlt := lt_infRung (R := κ * 2 ^ 52 + m * 2 ^ z) (e := k + E) (by rw [u0]; exact hb) (by omega)
    exact ⟨_, by rw [this, Nat.min_eq_left (Nat.le_of_lt hlt)], hlt, u0⟩

/-- The double's root of a number above 0, and what it is cut to. -/
theorem dbl_sqrt {x : Nat} (hx : rg x < 2139095040) (hz : rg x ≠ 0) (hs : sg x = false) :
    ∃ r m i, double.sqrt (double.write (single.read x)) = some r ∧ double.read r = .number false m i ∧ single.write (.number false m i) = fsqrt x := by
  rw [read_fin hx, hs]
  have hm := mg_lt x
  have hk := kk_le hx
  obtain ⟨E, hE⟩ : ∃ E : Nat, E = 925 := ⟨_, rfl⟩
  obtain ⟨C, hC9⟩ : ∃ C : Nat, C = 924 := ⟨_, rfl⟩
  obtain ⟨T7, hT7⟩ : ∃ T7 : Nat, T7 = 1074 := ⟨_, rfl⟩
  have hm0 : mg x ≠ 0 := by rw [ne_eq, mg_zero]; exact hz
  obtain ⟨R, w1, w2, w3⟩ := dbl_write false hE hm hk
  rw [w1]
  obtain ⟨m, k, r1, r2, r3, r4, r5⟩ := (dbl_word false (Nat.le_of_lt w2)).1 w2
  have hR0 : R ≠ 0 := by
    intro h
    rw [h, U_zero] at w3
    have := Nat.mul_pos (Nat.pos_of_ne_zero hm0) (Nat.two_pow_pos (kk x + E))
    omega
  have hmm : m ≠ 0 := fun h => hR0 (r3.2 h)
  have hmk : m * 2 ^ k = mg x * 2 ^ (kk x + E) := by rw [← r2, w3]
  unfold Format.sqrt
  rw [r1]
  simp only [Datum.root, if_neg hmm, Bool.false_eq_true, if_false, Option.map_some]
  have hm54 : double.fractionBits + 2 = 54 := by decide
  rw [hm54]
  have lg : m.log2 ≤ 52 := by
    rcases Nat.lt_or_ge 52 m.log2 with c | c
    · have h1 : 2 ^ 53 ≤ 2 ^ m.log2 := Nat.pow_le_pow_right (by omega) c
      have := Nat.log2_self_le hmm
      omega
    · exact c
  -- k is not small: the number is above 2^-149
  have hkl : 925 ≤ k + m.log2 := by
    rcases Nat.lt_or_ge (k + m.log2) 925 with c | c
    · exfalso
      have h1 : m * 2 ^ k < 2 ^ (m.log2 + 1) * 2 ^ k := Nat.mul_lt_mul_of_pos_right Nat.lt_log2_self (Nat.two_pow_pos k)
      rw [← Nat.pow_add] at h1
      have h2 : 2 ^ (m.log2 + 1 + k) ≤ 2 ^ E := Nat.pow_le_pow_right (by omega) (by omega)
      have h3 : 1 * 2 ^ E ≤ mg x * 2 ^ (kk x + E) := Nat.mul_le_mul (by omega) (Nat.pow_le_pow_right (by omega) (by omega))
      rw [Nat.one_mul] at h3
      exact absurd (Nat.le_trans (Nat.lt_of_lt_of_le h1 h2) (Nat.le_trans h3 (Nat.le_of_eq hmk.symm))) (Nat.not_succ_le_self _)
    · exact c
  generalize hmore : 2 * 54 - m.log2 + ((-1074 + (k : Int) - (2 * 54 - m.log2 : Nat)) % 2).toNat = more
  generalize hw : Datum.rootFrom (m <<< more) ((m <<< more).log2 / 2 + 1) 0 = w
  have hy0 : 2 * w + (w * w != m <<< more).toNat ≠ 0 := by
    intro h
    have h1 : w = 0 := by omega
    subst h1
    have : m <<< more ≠ 0 := by
      rw [Nat.shiftLeft_eq]
      exact Nat.mul_ne_zero hmm (Nat.ne_of_gt (Nat.two_pow_pos _))
    have h2 : (0 * 0 != m <<< more) = true := by simp; omega
    rw [h2] at h
    simp at h
  have hS := Near.rungOf double (by decide) (2 * w + (w * w != m <<< more).toNat) ((-1074 + (k : Int) - more) / 2 - 1) hy0
  have hff : double.fractionBits = 52 := rfl
  rw [dbl_least, hff, show (-1074 - ((-1074 + (k : Int) - more) / 2 - 1)).toNat = 0 by omega, Nat.pow_zero] at hS
  have hC := near_sqrt (f := 52) (i := -1074 + (k : Int)) (L := -1074) hmm 54 (by omega) (by omega) (by omega) more hmore.symm w hw.symm _ hS
  rw [show (-1074 + (k : Int) - 2 * -1074).toNat = k + T7 by omega, Nat.pow_add, ← Nat.mul_assoc, hmk, Nat.mul_assoc, ← Nat.pow_add 2 (kk x + E) T7] at hC
  generalize hSr : rungOf double (2 * w + (w * w != m <<< more).toNat) ((-1074 + (k : Int) - more) / 2 - 1) = S at *
  have e0 : kk x + E + T7 = kk x + 149 + E * 2 := by omega
  rw [e0] at hC
  have hcs : 2 * E + 1 ≤ kk x + 149 + E * 2 := by omega
  -- every middle of binary32 lies to it as to the root
  have side (t : Nat) := dbl_side (t := t) (c := C) hm (by omega) (by omega : 2 * C + 1 ≤ kk x + 149 + E * 2) hC
  have hSlt : S < 9218868437227405312 := by
    -- the middle behind 2^23 * 2^220 lies above
    have := side (221 * 2 ^ 23)
    rcases this with ⟨_, h⟩ | ⟨h, _⟩
    · exfalso
      have h1 : 2 ^ (23 + 220) ≤ hi 23 (221 * 2 ^ 23) := by
        unfold hi
        rw [show 221 * 2 ^ 23 = (220 + 1) * 2 ^ 23 from rfl, U_bin]
        omega
      have h2 : 2 ^ (23 + 220) * 2 ^ C ≤ hi 23 (221 * 2 ^ 23) * 2 ^ C := Nat.mul_le_mul_right _ h1
      obtain ⟨q, hq⟩ : ∃ q : Nat, q = 23 + 220 + C := ⟨_, rfl⟩
      rw [← Nat.pow_add, ← hq] at h2
      have h3 := Nat.mul_le_mul h2 h2
      rw [← Nat.pow_add] at h3
      have h4 : mg x * 2 ^ (kk x + 149 + E * 2) ≤ 2 ^ 24 * 2 ^ (kk x + 149 + E * 2) := Nat.mul_le_mul_right _ (Nat.le_of_lt hm)
      rw [← Nat.pow_add] at h4
      have h5 : 2 ^ (24 + (kk x + 149 + E * 2)) ≤ 2 ^ (q + q) := Nat.pow_le_pow_right (by omega) (by omega)
      exact absurd (Nat.lt_of_lt_of_le h (Nat.le_trans h4 (Nat.le_trans h5 h3))) (Nat.lt_irrefl _)
    · have h1 : hi 23 (221 * 2 ^ 23) ≤ 2 ^ (23 + 222) := by
        unfold hi
        have a1 := U_bin 23 220
        have a2 := U_bin 23 221
        have a3 : U 23 (221 * 2 ^ 23 + 1) < U 23 ((221 + 1) * 2 ^ 23) := U_mono (by omega)
        rw [a2] at a3
        rw [show 221 * 2 ^ 23 = (220 + 1) * 2 ^ 23 from rfl] at a3 ⊢
        rw [a1]
        omega
      have h2 : hi 23 (221 * 2 ^ 23) * 2 ^ C ≤ 2 ^ (23 + 222) * 2 ^ C := Nat.mul_le_mul_right _ h1
      rw [← Nat.pow_add] at h2
      refine lt_infRung (e := 23 + 222 + C - 52) ?_ (by omega)
      rw [show 52 + (23 + 222 + C - 52) = 23 + 222 + C by omega]
      exact Nat.lt_of_lt_of_le h h2
  obtain ⟨m', k', s1, s2, s3, _, _⟩ := (dbl_word false (Nat.le_of_lt hSlt)).1 hSlt
  refine ⟨double.word false S, m', -1074 + (k' : Int), ?_, s1, ?_⟩
  · show some (double.nearest false _ _) = _
    rw [nearest_rung _ _ _ _ hy0, hSr, dbl_inf, Nat.min_eq_left (Nat.le_of_lt hSlt)]
  · obtain ⟨T, t1, t2⟩ := write_number false m' (-1074 + (k' : Int))
    rw [t2]
    obtain ⟨Q, q1, q2⟩ := fsqrt_fin hx hz hs
    rw [q2]
    suffices hT : NearC 23 T (cs (U 23 (rg x) * 2 ^ 149)) by rw [hT.unique q1 (sane_cs _)]
    -- how the middles lie
    have cmp (t : Nat) : cq (m' * 2 ^ (-1074 + (k' : Int) + 149).toNat) (2 ^ (-149 - (-1074 + (k' : Int))).toNat) (hi 23 t) = cs (U 23 (rg x) * 2 ^ 149) (hi 23 t) := by
      have p1 : U 23 (rg x) * 2 ^ 149 = mg x * 2 ^ (kk x + 149) := by rw [U_mg, Nat.mul_assoc, ← Nat.pow_add]
      rw [p1]
      unfold cq cs
      have ex : (-1074 + (k' : Int) + 149).toNat + E = k' + (-149 - (-1074 + (k' : Int))).toNat := by omega
      have hs2 := side t
      rw [s2] at hs2
      generalize hA : (-1074 + (k' : Int) + 149).toNat = a at *
      generalize hB : (-149 - (-1074 + (k' : Int))).toNat = b at *
      generalize hi 23 t = M at *
      -- in the double's units: times 2^925
      have f1 : M * 2 ^ b * 2 ^ E = M * 2 ^ C * (2 * 2 ^ b) := by
        rw [show E = C + 1 by omega, Nat.pow_succ]; grind
      have f2 : 2 * (m' * 2 ^ a) * 2 ^ E = m' * 2 ^ k' * (2 * 2 ^ b) := by
        have : 2 ^ a * 2 ^ E = 2 ^ k' * 2 ^ b := by rw [← Nat.pow_add, ← Nat.pow_add, ex]
        calc 2 * (m' * 2 ^ a) * 2 ^ E = 2 * m' * (2 ^ a * 2 ^ E) := by grind
          _ = 2 * m' * (2 ^ k' * 2 ^ b) := by rw [this]
          _ = _ := by grind
      have f3 : M * M * (2 ^ C * 2 ^ C) = M * 2 ^ C * (M * 2 ^ C) := by grind
      have f4 : 4 * (mg x * 2 ^ (kk x + 149)) * (2 ^ C * 2 ^ C) = mg x * 2 ^ (kk x + 149 + E * 2) := by
        rw [Nat.pow_add 2 (kk x + 149) (E * 2), show E * 2 = C + C + 2 by omega, Nat.pow_add 2 (C + C) 2, Nat.pow_add 2 C C]; grind
      have hb := Nat.mul_pos (show 0 < 2 by omega) (Nat.two_pow_pos b)
      rcases hs2 with ⟨h1, h2⟩ | ⟨h1, h2⟩
      · rw [Nat.compare_eq_lt.2, Nat.compare_eq_lt.2]
        · exact Nat.lt_of_mul_lt_mul_right (a := 2 ^ C * 2 ^ C) (by rw [f3, f4]; exact h2)
        · exact Nat.lt_of_mul_lt_mul_right (a := 2 ^ E) (by rw [f1, f2]; exact Nat.mul_lt_mul_of_pos_right h1 hb)
      · rw [Nat.compare_eq_gt.2, Nat.compare_eq_gt.2]
        · exact Nat.lt_of_mul_lt_mul_right (a := 2 ^ C * 2 ^ C) (by rw [f3, f4]; exact h2)
        · exact Nat.lt_of_mul_lt_mul_right (a := 2 ^ E) (by rw [f1, f2]; exact Nat.mul_lt_mul_of_pos_right h1 hb)
    refine ⟨?_, ?_⟩
    · rcases Nat.eq_zero_or_pos T with z | z
      · exact .inl z
      · have e : lo 23 T = hi 23 (T - 1) := by unfold lo hi; rw [show T - 1 + 1 = T by omega]
        have := t1.1
        rw [e, cmp] at this
        rw [e]
        exact this
    · have := t1.2
      rw [cmp] at this
      exact this

/-! ### the machine's steps -/
/-- A float of binary64 out of one of binary32, its root, and back: bits, where they are fixed. -/
def up? (x : Nat) : Option Nat := if 2139095040 < rg x then none else some (double.write (single.read x))

theorem dbl_cut (t : Nat) : ∃ s z, double.read (t % 2 * 2 ^ 63 + 0x7ff0000000000000 + 1 + t / 2 % (2 ^ 52 - 1)) = .nan s z := by
  unfold Format.read
  simp only [dbl_sign, dbl_binade, dbl_inf, dbl_least]
  have h1 : t / 2 % (2 ^ 52 - 1) < 2 ^ 52 - 1 := Nat.mod_lt _ (by decide)
  generalize t / 2 % (2 ^ 52 - 1) = z at *
  simp only [show (2 : Nat) ^ 63 = 9223372036854775808 from rfl, show (2 : Nat) ^ 52 = 4503599627370496 from rfl] at *
  rw [if_neg (by omega), if_neg (by omega), if_neg (by omega)]
  exact ⟨_, _, rfl⟩

theorem fsqrt_zero {x : Nat} (h : rg x = 0) : single.sqrt x = some (pk (sg x) 0) := by
  unfold Format.sqrt
  rw [read_fin (by omega)]
  simp only [Datum.root, mg_zero.2 h]
  show some (single.nearest _ 0 _) = _
  simp [Format.nearest, word_]
theorem fsqrt_inf {x : Nat} (h : rg x = 2139095040) : single.sqrt x = if sg x then none else some 2139095040 := by
  unfold Format.sqrt
  rw [read_inf h]
  cases sg x <;> rfl
theorem fsqrt_neg {x : Nat} (h : rg x < 2139095040) (hz : rg x ≠ 0) (hs : sg x = true) : single.sqrt x = none := by
  unfold Format.sqrt
  rw [read_fin h, hs]
  have hm : mg x ≠ 0 := by rw [ne_eq, mg_zero]; exact hz
  simp [Datum.root, hm]
theorem fsqrt_nan {x : Nat} (h : 2139095040 < rg x) : single.sqrt x = none := by
  unfold Format.sqrt
  rw [read_nan h]
  rfl

section
variable {P : Program}
theorem run_up (w : World) (src dst : TypeId) (x : Nat) (hs : (P.underlying src).isSome = true) (hd : P.underlying dst = some (.float .f64)) :
    (convert src dst (.float .f32 x)).run P w = .ok (.float .f64 (fw (up? x) (.nanConv .f64 x) w)) (w.drewN (fn (up? x))) := by
  obtain ⟨u, hs'⟩ := Option.isSome_iff_exists.1 hs
  have e : (convert src dst (.float .f32 x)).run P w = (Conv.floatToFloat .f32 x .f64).run P w := by
    cases u <;> simp [convert, run_underlying hs', run_underlying hd]
  rw [e]
  unfold Conv.floatToFloat
  rcases Nat.lt_or_ge 2139095040 (rg x) with c | c
  · have h0 : up? x = none := by unfold up?; rw [if_pos c]
    have : FloatKind.f32.decode x = .nan (sg x) (rg x - 2139095040) := read_nan c
    simp [this, h0, fw, fn, choose, Question.forced, Sem.run]
    rfl
  · rcases Nat.lt_or_ge (rg x) 2139095040 with d | d
    · have h1 : FloatKind.f32.decode x = .number (sg x) (mg x) (-149 + (kk x : Int)) := read_fin d
      have h2 : single.read x = .number (sg x) (mg x) (-149 + (kk x : Int)) := read_fin d
      obtain ⟨R, w1, w2, _⟩ := dbl_write (sg x) rfl (mg_lt x) (kk_le d)
      have h0 : up? x = some (double.word (sg x) R) := by unfold up?; rw [if_neg (by omega), h2, w1]
      have h3 : FloatKind.f64.encode (.number (sg x) (mg x) (-149 + (kk x : Int))) = double.word (sg x) R := w1
      have h4 : (FloatKind.f64.decode (double.word (sg x) R)).isInfinity = false := by
        obtain ⟨m, k, r1, _⟩ := (dbl_word (sg x) (Nat.le_of_lt w2)).1 w2
        show (double.read _).isInfinity = false
        rw [r1]; rfl
      simp [h0, h1, h3, h4, fw, fn]
      rfl
    · have h1 : FloatKind.f32.decode x = .infinity (sg x) := read_inf (by omega)
      have h2 : single.read x = .infinity (sg x) := read_inf (by omega)
      have h0 : up? x = some (double.write (.infinity (sg x))) := by unfold up?; rw [if_neg (by omega), h2]
      simp [h0, h1, fw, fn]
      exact ⟨rfl, rfl⟩
theorem run_sqrt64 (w : World) (y : Nat) : (Extern.MathSqrt.sqrt #[.float .f64 y]).run P w = .ok (.float .f64 (fw (double.sqrt y) (.nanBits .f64 y y) w)) (w.drewN (fn (double.sqrt y))) := by
  change Sem.run P (match FloatKind.f64.format.sqrt y with
    | some r => pure (Value.float .f64 r)
    | none => do pure (Value.float .f64 (← choose (.nanBits .f64 y y)))) w = _
  cases h : double.sqrt y <;> simp [fw, fn, FloatKind.format, h, choose, Question.forced, Sem.run] <;> rfl

/-- What the root's way back tells, from the double that was drawn or reckoned. -/
theorem run_down (w : World) (src dst : TypeId) (x : Nat) (w0 w1 : World) (hs : (P.underlying src).isSome = true) (hd : P.underlying dst = some (.float .f32)) :
    ∃ z n, (convert src dst (.float .f64 (fw (double.sqrt (fw (up? x) (.nanConv .f64 x) w0)) (.nanBits .f64 (fw (up? x) (.nanConv .f64 x) w0) (fw (up? x) (.nanConv .f64 x) w0)) w1))).run P w = .ok (.float .f32 z) (w.drewN n) ∧ tl z = fsqrt x := by
  obtain ⟨u, hs'⟩ := Option.isSome_iff_exists.1 hs
  have e (y : Nat) : (convert src dst (.float .f64 y)).run P w = (Conv.floatToFloat .f64 y .f32).run P w := by
    cases u <;> simp [convert, run_underlying hs', run_underlying hd]
  have nan (y : Nat) (h : ∃ s z, double.read y = .nan s z) : ∃ z n, (convert src dst (.float .f64 y)).run P w = .ok (.float .f32 z) (w.drewN n) ∧ tl z = 2143289344 := by
    obtain ⟨s, z, h⟩ := h
    rw [e]
    unfold Conv.floatToFloat
    have h' : FloatKind.f64.decode y = .nan s z := h
    refine ⟨_, 1, ?_, tl_nan (rg_cut (w.tape w.drawn (.nanConv .f32 y)))⟩
    simp [h', choose, Question.forced, Sem.run]
    exact ⟨rfl, rfl⟩
  have bad (y : Nat) (h : double.sqrt y = none) : ∃ z n, (convert src dst (.float .f64 (fw (double.sqrt y) (.nanBits .f64 y y) w1))).run P w = .ok (.float .f32 z) (w.drewN n) ∧ tl z = 2143289344 := by
    rw [h]
    exact nan _ (dbl_cut _)
  rcases Nat.lt_or_ge 2139095040 (rg x) with c | c
  · -- a NaN
    have h1 : up? x = none := by unfold up?; rw [if_pos c]
    have h2 : fsqrt x = 2143289344 := by unfold fsqrt; rw [fsqrt_nan c]; rfl
    rw [h1, h2]
    refine bad _ ?_
    obtain ⟨s, z, h⟩ := dbl_cut (w0.tape w0.drawn (.nanConv .f64 x))
    have h' : double.read (fw none (.nanConv .f64 x) w0) = .nan s z := h
    unfold Format.sqrt
    rw [h']
    rfl
  · have h1 : up? x = some (double.write (single.read x)) := by unfold up?; rw [if_neg (by omega)]
    rw [h1]
    show ∃ z n, (convert src dst (.float .f64 (fw (double.sqrt (double.write (single.read x))) (.nanBits .f64 (double.write (single.read x)) (double.write (single.read x))) w1))).run P w = .ok (.float .f32 z) (w.drewN n) ∧ tl z = fsqrt x
    rcases Nat.lt_or_ge (rg x) 2139095040 with d | d
    · by_cases hz : rg x = 0
      · -- a nought
        have h2 : single.read x = .number (sg x) 0 (-149 + (kk x : Int)) := by rw [read_fin d, mg_zero.2 hz]
        have h3 : double.write (single.read x) = double.word (sg x) 0 := by rw [h2]; rfl
        obtain ⟨m, k, r1, _, r3, _⟩ := (dbl_word (sg x) (R := 0) (by decide)).1 (by decide)
        have hm : m = 0 := r3.1 rfl
        subst hm
        have h4 : double.sqrt (double.word (sg x) 0) = some (double.word (sg x) 0) := by
          unfold Format.sqrt
          rw [r1]
          rfl
        rw [h3, h4, e]
        show ∃ z n, (Conv.floatToFloat .f64 (double.word (sg x) 0) .f32).run P w = .ok (.float .f32 z) (w.drewN n) ∧ tl z = fsqrt x
        have r1' : FloatKind.f64.decode (double.word (sg x) 0) = .number (sg x) 0 (-1074 + (k : Int)) := r1
        have h5 : FloatKind.f32.encode (.number (sg x) 0 (-1074 + (k : Int))) = pk (sg x) 0 := by
          show single.nearest _ 0 (-1074 + (k : Int)) = _
          simp [Format.nearest, word_]
        have h6 : (FloatKind.f32.decode (pk (sg x) 0)).isInfinity = false := by
          show (single.read _).isInfinity = false
          rw [read_fin (by rw [rg_pk (by omega)]; omega)]; rfl
        refine ⟨pk (sg x) 0, 0, ?_, ?_⟩
        · unfold Conv.floatToFloat
          simp [r1', h5, h6]
          rfl
        · unfold fsqrt
          rw [fsqrt_zero hz, tl_num (by rw [rg_pk (by omega)]; omega)]
          rfl
      · cases hs : sg x with
        | false =>
          obtain ⟨r, m, i, q1, q2, q3⟩ := dbl_sqrt d hz hs
          rw [q1, e]
          show ∃ z n, (Conv.floatToFloat .f64 r .f32).run P w = .ok (.float .f32 z) (w.drewN n) ∧ tl z = fsqrt x
          have q2' : FloatKind.f64.decode r = .number false m i := q2
          have q3' : FloatKind.f32.encode (.number false m i) = fsqrt x := q3
          obtain ⟨R, t1, t2⟩ := fsqrt_fin d hz hs
          have hR : R < 2139095040 := by
            rcases Nat.lt_or_ge R 2139095040 with c | c
            · exact c
            · exfalso
              have a1 : lo 23 R * lo 23 R ≤ 4 * (U 23 (rg x) * 2 ^ 149) := by
                rcases t1.1 with h | h | ⟨h, _⟩
                · omega
                · unfold cs at h; rw [Nat.compare_eq_lt] at h; omega
                · unfold cs at h; rw [Nat.compare_eq_eq] at h; omega
              have a2 : 2 ^ 276 ≤ lo 23 R := by
                have b1 := U_bin 23 253
                have b2 := U_le (f := 23) (r := (253 + 1) * 2 ^ 23) (s := R) (by omega)
                rw [b1] at b2
                unfold lo
                omega
              have a3 := Nat.mul_le_mul a2 a2
              have a4 : U 23 (rg x) < 2 ^ 24 * 2 ^ 253 := by
                rw [U_mg]
                exact Nat.mul_lt_mul_of_lt_of_le (mg_lt x) (Nat.pow_le_pow_right (by omega) (kk_le d)) (Nat.two_pow_pos _)
              generalize U 23 (rg x) = u at *
              generalize lo 23 R * lo 23 R = l at *
              omega
          have h6 : (FloatKind.f32.decode (fsqrt x)).isInfinity = false := by
            show (single.read _).isInfinity = false
            rw [t2, read_fin (by rw [rg_pk (by omega)]; omega)]; rfl
          refine ⟨fsqrt x, 0, ?_, ?_⟩
          · unfold Conv.floatToFloat
            simp [q2', q3', h6]
            rfl
          · rw [t2, tl_num (by rw [rg_pk (by omega)]; omega)]
        | true =>
          have h2 : fsqrt x = 2143289344 := by unfold fsqrt; rw [fsqrt_neg d hz hs]; rfl
          rw [h2]
          refine bad _ ?_
          obtain ⟨R, w1, w2, w3⟩ := dbl_write (sg x) rfl (mg_lt x) (kk_le d)
          obtain ⟨m, k, r1, _, r3, _⟩ := (dbl_word (sg x) (Nat.le_of_lt w2)).1 w2
          have hm : m ≠ 0 := by
            intro h
            have hR := r3.2 h
            subst hR
            rw [U_zero] at w3
            have := Nat.mul_pos (Nat.pos_of_ne_zero (fun h => hz (mg_zero.1 h))) (Nat.two_pow_pos (kk x + 925))
            omega
          unfold Format.sqrt
          rw [read_fin d, w1, r1, hs]
          simp [Datum.root, hm]
    · -- an infinity
      have h2 : single.read x = .infinity (sg x) := read_inf (by omega)
      rw [h2]
      have h3 : double.read (double.write (.infinity (sg x))) = .infinity (sg x) := by
        show double.read (double.word (sg x) double.infRung) = _
        rw [dbl_inf]
        exact (dbl_word (sg x) (Nat.le_refl _)).2 rfl
      have h4 : fsqrt x = res (if sg x then none else some 2139095040) := by unfold fsqrt; rw [fsqrt_inf (by omega)]
      rw [h4]
      cases hs : sg x with
      | true =>
        refine bad _ ?_
        rw [hs] at h3
        unfold Format.sqrt
        rw [h3]
        rfl
      | false =>
        rw [hs] at h3
        have h5 : double.sqrt (double.write (.infinity false)) = some (double.word false double.infRung) := by
          unfold Format.sqrt
          rw [h3]
          rfl
        rw [h5, e]
        have h6 : FloatKind.f64.decode (double.word false double.infRung) = .infinity false := h3
        refine ⟨2139095040, 0, ?_, by decide⟩
        show (Conv.floatToFloat .f64 (double.word false double.infRung) .f32).run P w = _
        unfold Conv.floatToFloat
        simp [h6]
        exact ⟨by decide, rfl⟩
end
end Lathe
