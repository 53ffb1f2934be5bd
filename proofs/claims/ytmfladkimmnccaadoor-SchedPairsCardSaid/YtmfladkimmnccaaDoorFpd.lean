/- Numbers that are told exactly: what lies nearest, Dekker's and Knuth's sums, Sterbenz's difference. No condition. -/
import Derived.Test.YtmfladkimmnccaaDoorFpc

namespace Lathe
open Ieee

/-- What lies nearest lies within half a step; at half a step it is even. -/
theorem near_ulp {r p q k m : Nat} (h : Near 23 r p q) (hr : r = k * 8388608 + m) (h1 : m < 16777216) (h2 : k = 0 ∨ 8388608 ≤ m) :
    2 * (m * 2 ^ k * q) ≤ 2 * p + 2 ^ k * q ∧ 2 * p ≤ 2 * (m * 2 ^ k * q) + 2 ^ k * q ∧ (2 * (m * 2 ^ k * q) = 2 * p + 2 ^ k * q ∨ 2 * p = 2 * (m * 2 ^ k * q) + 2 ^ k * q → m % 2 = 0) := by
  subst hr
  have u0 : U 23 (k * 8388608 + m) = m * 2 ^ k := U_form 23 k m (Nat.le_of_lt h1) h2
  have u1 : U 23 (k * 8388608 + m + 1) = (m + 1) * 2 ^ k := U_succ 23 k m h1 h2
  have hpar : (k * 8388608 + m) % 2 = m % 2 := by omega
  have ehi : hi 23 (k * 8388608 + m) * q = 2 * (m * 2 ^ k * q) + 2 ^ k * q := by
    unfold hi
    rw [u0, u1]
    grind
  obtain ⟨hl, hh⟩ := h
  rw [ehi, hpar] at hh
  rw [hpar] at hl
  have hb : 2 * p ≤ 2 * (m * 2 ^ k * q) + 2 ^ k * q := by rcases hh with h | h <;> omega
  rcases Nat.eq_zero_or_pos (k * 8388608 + m) with z | z
  · have hm : m = 0 := by omega
    subst hm
    refine ⟨by rw [Nat.zero_mul, Nat.zero_mul]; omega, hb, fun _ => rfl⟩
  · have hlo : 2 * (m * 2 ^ k * q) ≤ lo 23 (k * 8388608 + m) * q + 2 ^ k * q := by
      have : 2 * (m * 2 ^ k) ≤ lo 23 (k * 8388608 + m) + 2 ^ k := by
        unfold lo
        rw [u0]
        by_cases b : 0 < k ∧ m = 8388608
        · obtain ⟨b1, rfl⟩ := b
          obtain ⟨j, rfl⟩ : ∃ j, k = j + 1 := ⟨k - 1, by omega⟩
          have v : U 23 ((j + 1) * 8388608 + 8388608 - 1) = 16777215 * 2 ^ j := by
            rw [show (j + 1) * 8388608 + 8388608 - 1 = j * 8388608 + 16777215 by omega]
            exact U_form 23 j _ (by omega) (by omega)
          rw [v, Nat.pow_succ]
          omega
        · have v : U 23 (k * 8388608 + m - 1) = (m - 1) * 2 ^ k := by
            rw [show k * 8388608 + m - 1 = k * 8388608 + (m - 1) by omega]
            refine U_form 23 k _ ?_ ?_
            · show m - 1 ≤ 16777216
              omega
            · show k = 0 ∨ 8388608 ≤ m - 1
              omega
          rw [v]
          have : (m - 1) * 2 ^ k + 2 ^ k = m * 2 ^ k := by rw [← Nat.succ_mul]; congr 1; omega
          omega
      have h3 := Nat.mul_le_mul_right q this
      rw [Nat.add_mul, Nat.mul_assoc] at h3
      exact h3
    rcases hl with hl | hl | hl
    · omega
    · refine ⟨by omega, hb, fun e => ?_⟩
      rcases hh with hh | hh <;> omega
    · exact ⟨by omega, hb, fun _ => hl.2⟩

/-! ### representable numbers -/
def rep (v : Int) : Prop := ∃ r, v.natAbs = U 23 r
/-- x is the number nearest to v, without a greatest one. -/
def RN (v x : Int) : Prop := ∃ r, Near 23 r v.natAbs 1 ∧ x = if v < 0 then -(U 23 r : Int) else (U 23 r : Int)

theorem rep_mk : ∀ (k n : Nat), n ≤ 16777216 → ∃ r, U 23 r = n * 2 ^ k
  | 0, n, h => ⟨0 * 2 ^ 23 + n, U_form 23 0 n h (.inl rfl)⟩
  | k + 1, n, h => by
    by_cases c : 8388608 ≤ n
    · exact ⟨(k + 1) * 2 ^ 23 + n, U_form 23 (k + 1) n h (.inr c)⟩
    · obtain ⟨r, hr⟩ := rep_mk k (2 * n) (by omega)
      exact ⟨r, by rw [hr, Nat.pow_succ]; grind⟩
theorem rep_of {v : Int} (k : Nat) (hd : 2 ^ k ∣ v.natAbs) (hb : v.natAbs ≤ 16777216 * 2 ^ k) : rep v := by
  obtain ⟨n, hn⟩ := hd
  rw [Nat.mul_comm] at hn
  obtain ⟨r, hr⟩ := rep_mk k n (by rw [hn] at hb; exact Nat.le_of_mul_le_mul_right hb (Nat.two_pow_pos k))
  exact ⟨r, by rw [hr, hn]⟩
theorem rep_neg {v : Int} (h : rep v) : rep (-v) := by
  obtain ⟨r, h⟩ := h
  exact ⟨r, by rw [Int.natAbs_neg]; exact h⟩
theorem rep_zero : rep 0 := ⟨0, by rw [U_zero]; rfl⟩
theorem rep_sub_comm {v w : Int} (h : rep (v - w)) : rep (w - v) := by
  have := rep_neg h
  rwa [Int.neg_sub] at this

theorem RN.rep {v x : Int} (h : RN v x) : rep x := by
  obtain ⟨r, _, rfl⟩ := h
  refine ⟨r, ?_⟩
  split <;> simp
theorem RN.exact {v x : Int} (h : RN v x) (hv : Lathe.rep v) : x = v := by
  obtain ⟨r, h, rfl⟩ := h
  obtain ⟨s, hs⟩ := hv
  have hself := Near.self 23 s
  rw [← hs] at hself
  have := h.unique hself (by omega) (by omega) rfl
  subst this
  split <;> omega
theorem RN.mono {v w x y : Int} (h : RN v x) (h' : RN w y) (hl : v ≤ w) : x ≤ y := by
  obtain ⟨r, h, rfl⟩ := h
  obtain ⟨s, h', rfl⟩ := h'
  by_cases c : v < 0
  · rw [if_pos c]
    by_cases d : w < 0
    · rw [if_pos d]
      have := h'.mono h (by omega) (by omega) (by omega)
      have := U_le (f := 23) this
      omega
    · rw [if_neg d]; omega
  · rw [if_neg c, if_neg (by omega)]
    have := h.mono h' (by omega) (by omega) (by omega)
    have := U_le (f := 23) this
    omega
theorem RN.neg {v x : Int} (h : RN v x) : RN (-v) (-x) := by
  obtain ⟨r, h, rfl⟩ := h
  refine ⟨r, by rw [Int.natAbs_neg]; exact h, ?_⟩
  rcases Int.lt_trichotomy v 0 with c | c | c
  · rw [if_pos c, if_neg (by omega)]; omega
  · subst c
    have : r = 0 := by
      have := h.unique (Near.self 23 0) (by omega) (by omega) (by rw [U_zero]; rfl)
      exact this
    subst this
    simp [U_zero]
  · rw [if_neg (by omega), if_pos (by omega)]
/-- None lies nearer. -/
theorem RN.near {v x y : Int} (h : RN v x) (hy : Lathe.rep y) : (x - v).natAbs ≤ (y - v).natAbs := by
  obtain ⟨r, h, rfl⟩ := h
  obtain ⟨s, hs⟩ := hy
  obtain ⟨h1, h2⟩ := h
  have l1 : r = 0 ∨ U 23 (r - 1) + U 23 r ≤ 2 * v.natAbs := by
    unfold lo at h1
    omega
  have l2 : 2 * v.natAbs ≤ U 23 r + U 23 (r + 1) := by
    unfold hi at h2
    omega
  have l3 : s ≤ r - 1 → U 23 s ≤ U 23 (r - 1) := fun h => U_le h
  have l4 : r + 1 ≤ s → U 23 (r + 1) ≤ U 23 s := fun h => U_le h
  have l5 : s = r → U 23 s = U 23 r := fun h => by rw [h]
  have l6 : U 23 0 = 0 := U_zero 23
  have l7 : r = 0 → U 23 r = 0 := fun h => by rw [h, l6]
  have l8 : r ≠ 0 → U 23 (r - 1) < U 23 r := fun h => U_mono (by omega)
  rcases Nat.lt_trichotomy s r with c | c | c
  · have := l3 (by omega)
    split <;> omega
  · have := l5 c
    split <;> omega
  · have := l4 c
    have := U_lt_succ 23 r
    split <;> omega
theorem RN.half {v x : Int} (h : RN v x) (k : Nat) (hb : v.natAbs ≤ 16777216 * 2 ^ k) : 2 * (x - v).natAbs ≤ 2 ^ k := by
  have hk := Nat.two_pow_pos k
  generalize hK : 2 ^ k = K at *
  have h0 : 0 < 2 * K := by omega
  have d1 := Nat.div_add_mod (2 * v.natAbs + K) (2 * K)
  have d2 := Nat.mod_lt (2 * v.natAbs + K) h0
  have d3 : (2 * v.natAbs + K) / (2 * K) ≤ 16777216 := by
    rw [Nat.div_le_iff_le_mul_add_pred h0]
    omega
  generalize (2 * v.natAbs + K) / (2 * K) = n at *
  generalize (2 * v.natAbs + K) % (2 * K) = m at *
  have d4 : 2 * K * n = 2 * (n * K) := by grind
  rw [d4] at d1
  have hr : Lathe.rep (if v < 0 then -((n * K : Nat) : Int) else ((n * K : Nat) : Int)) := by
    have : (if v < 0 then -((n * K : Nat) : Int) else ((n * K : Nat) : Int)).natAbs = n * K := by split <;> omega
    refine rep_of k ?_ ?_
    · rw [this, hK]; exact ⟨n, Nat.mul_comm ..⟩
    · rw [this, hK]; exact Nat.mul_le_mul_right _ d3
  have := h.near hr
  generalize n * K = X at *
  split at this <;> omega
theorem rep.dvd {x : Int} (h : rep x) (k : Nat) (hb : 8388608 * 2 ^ k ≤ x.natAbs) : 2 ^ k ∣ x.natAbs := by
  obtain ⟨r, h⟩ := h
  rw [h] at hb ⊢
  refine U_dvd ?_
  rw [Nat.pow_add]
  exact hb
theorem RN.big {v x : Int} (h : RN v x) (k : Nat) (hb : 8388608 * 2 ^ k ≤ v.natAbs) : 8388608 * 2 ^ k ≤ x.natAbs := by
  obtain ⟨r, h, rfl⟩ := h
  obtain ⟨s, hs⟩ := rep_mk k 8388608 (by omega)
  have := (Near.self 23 s).mono h (by omega) (by omega) (by omega)
  have := U_le (f := 23) this
  split <;> omega
/-- The place of a number. -/
theorem rep.place {x : Int} (h : rep x) : ∃ k, 2 ^ k ∣ x.natAbs ∧ x.natAbs ≤ 16777215 * 2 ^ k ∧ (k = 0 ∨ 8388608 * 2 ^ k ≤ x.natAbs) := by
  obtain ⟨r, h⟩ := h
  obtain ⟨k, n, rfl, h1, h2⟩ := form 23 r
  rw [U_form 23 k n (by omega) h2] at h
  rw [h]
  simp only [show (2 : Nat) ^ (23 + 1) = 16777216 from rfl, show (2 : Nat) ^ 23 = 8388608 from rfl] at h1 h2
  refine ⟨k, Nat.dvd_mul_left .., Nat.mul_le_mul_right _ (by omega), ?_⟩
  rcases h2 with h2 | h2
  · exact .inl h2
  · exact .inr (Nat.mul_le_mul_right _ h2)

theorem dvd_sub {k : Nat} {x y : Int} (h : 2 ^ k ∣ x.natAbs) (h' : 2 ^ k ∣ y.natAbs) : 2 ^ k ∣ (x - y).natAbs := by
  exact Int.ofNat_dvd_left.1 (Int.dvd_sub (Int.ofNat_dvd_left.2 h) (Int.ofNat_dvd_left.2 h'))
theorem dvd_add {k : Nat} {x y : Int} (h : 2 ^ k ∣ x.natAbs) (h' : 2 ^ k ∣ y.natAbs) : 2 ^ k ∣ (x + y).natAbs := by
  exact Int.ofNat_dvd_left.1 (Int.dvd_add (Int.ofNat_dvd_left.2 h) (Int.ofNat_dvd_left.2 h'))
theorem dvd_le {j k n : Nat} (h : 2 ^ k ∣ n) (hj : j ≤ k) : 2 ^ j ∣ n := Nat.dvd_trans (Nat.pow_dvd_pow 2 hj) h

/-- Of a sum with the lesser behind: the sum less the greater is representable. -/
theorem dekker {x y z : Int} (hx : rep x) (hy : rep y) (hl : y.natAbs ≤ x.natAbs) (hz : RN (x + y) z) : rep (z - x) := by
  obtain ⟨p, x1, x2, x3⟩ := hx.place
  obtain ⟨q, y1, y2, y3⟩ := hy.place
  have hqp : q ≤ p := by
    rcases Nat.lt_or_ge p q with c | c
    · exfalso
      have : 2 ^ (p + 1) ≤ 2 ^ q := Nat.pow_le_pow_right (by omega) c
      rw [Nat.pow_succ] at this
      have := Nat.two_pow_pos p
      rcases y3 with y3 | y3
      · omega
      · omega
    · exact c
  by_cases c : (x + y).natAbs ≤ 16777216 * 2 ^ q
  · have hr : rep (x + y) := rep_of q (dvd_add (dvd_le x1 hqp) y1) c
    rw [hz.exact hr, show x + y - x = y by omega]
    exact hy
  · -- the place at which the sum is cut
    have hex : ∀ d, (x + y).natAbs ≤ 16777216 * 2 ^ (q + d) → ∃ j, q < j ∧ j ≤ q + d ∧ (x + y).natAbs ≤ 16777216 * 2 ^ j ∧ 8388608 * 2 ^ j < (x + y).natAbs := by
      intro d
      induction d with
      | zero => intro h; exact absurd h c
      | succ d ih =>
        intro h
        by_cases e : (x + y).natAbs ≤ 16777216 * 2 ^ (q + d)
        · obtain ⟨j, h1, h2, h3⟩ := ih e
          exact ⟨j, h1, by omega, h3⟩
        · refine ⟨q + (d + 1), by omega, Nat.le_refl _, h, ?_⟩
          rw [← Nat.add_assoc, Nat.pow_succ]
          omega
    obtain ⟨j, j1, j2, j3, j4⟩ := hex (p + 1 - q) (by
      rw [show q + (p + 1 - q) = p + 1 by omega, Nat.pow_succ]
      omega)
    have j5 : j ≤ p + 1 := by omega
    have hh := hz.half j j3
    have hd := hz.rep.dvd j (hz.big j (by omega))
    have hyj : y.natAbs ≤ 8388608 * 2 ^ j := by
      have : 2 ^ (q + 1) ≤ 2 ^ j := Nat.pow_le_pow_right (by omega) j1
      rw [Nat.pow_succ] at this
      omega
    by_cases e : j ≤ p
    · refine rep_of j (dvd_sub hd (dvd_le x1 e)) ?_
      have := Nat.two_pow_pos j
      omega
    · obtain rfl : j = p + 1 := by omega
      refine rep_of p (dvd_sub (dvd_le hd (by omega)) x1) ?_
      rw [Nat.pow_succ] at hh
      omega
/-- What a sum leaves is representable. -/
theorem err_rep {x y z : Int} (hx : rep x) (hy : rep y) (hz : RN (x + y) z) : rep (x + y - z) := by
  obtain ⟨p, x1, x2, x3⟩ := hx.place
  obtain ⟨q, y1, y2, y3⟩ := hy.place
  have n1 := hz.near hx
  have n2 := hz.near hy
  have key (k : Nat) (a1 : 2 ^ k ∣ x.natAbs) (a2 : 2 ^ k ∣ y.natAbs) (hb : (x + y - z).natAbs ≤ 16777215 * 2 ^ k) : rep (x + y - z) := by
    by_cases c : (x + y).natAbs ≤ 16777216 * 2 ^ k
    · have hr : rep (x + y) := rep_of k (dvd_add a1 a2) c
      rw [hz.exact hr, Int.sub_self]
      exact rep_zero
    · have hd := hz.rep.dvd k (hz.big k (by omega))
      exact rep_of k (dvd_sub (dvd_add a1 a2) hd) (by omega)
  rcases Nat.le_total p q with c | c
  · exact key p x1 (dvd_le y1 c) (by omega)
  · exact key q (dvd_le x1 c) y1 (by omega)

/-- Six operations find what a sum leaves. -/
theorem knuth {a b s t a' d d' e : Int} (ha : rep a) (hb : rep b) (hs : RN (a + b) s) (ht : RN (s - a) t) (ha' : RN (s - t) a') (hd : RN (a - a') d) (hd' : RN (b - t) d') (he : RN (d + d') e) : a + b = s + e := by
  have herr := err_rep ha hb hs
  by_cases c : rep (s - a)
  · obtain rfl := ht.exact c
    rw [show s - (s - a) = a by omega] at ha'
    obtain rfl := ha'.exact ha
    rw [Int.sub_self] at hd
    obtain rfl := hd.exact rep_zero
    rw [show b - (s - a') = a' + b - s by omega] at hd'
    obtain rfl := hd'.exact herr
    rw [Int.zero_add] at he
    obtain rfl := he.exact herr
    omega
  · have hab : a.natAbs < b.natAbs := by
      rcases Nat.lt_or_ge a.natAbs b.natAbs with h | h
      · exact h
      · exact absurd (dekker ha hb h hs) c
    have has : a.natAbs ≤ s.natAbs := by
      rcases Nat.lt_or_ge s.natAbs a.natAbs with h | h
      · exfalso
        -- then the sum is exact
        have hv : (a + b).natAbs ≤ a.natAbs := by
          have n1 := hs.near ha
          have n2 := hs.near (rep_neg ha)
          omega
        obtain ⟨p, x1, x2, x3⟩ := ha.place
        obtain ⟨q, y1, y2, y3⟩ := hb.place
        have hpq : p ≤ q := by
          rcases Nat.lt_or_ge q p with d | d
          · exfalso
            have : 2 ^ (q + 1) ≤ 2 ^ p := Nat.pow_le_pow_right (by omega) d
            rw [Nat.pow_succ] at this
            have := Nat.two_pow_pos q
            rcases x3 with x3 | x3 <;> omega
          · exact d
        have hr : rep (a + b) := rep_of p (dvd_add x1 (dvd_le y1 hpq)) (by omega)
        rw [hs.exact hr, show a + b - a = b by omega] at c
        exact c hb
      · exact h
    rw [show s - a = s + -a by omega] at ht
    have h1 := dekker hs.rep (rep_neg ha) (by omega) ht
    obtain rfl := ha'.exact (rep_sub_comm h1)
    have h2 := err_rep hs.rep (rep_neg ha) ht
    rw [show a - (s - t) = -(s + -a - t) by omega] at hd
    obtain rfl := hd.exact (rep_neg h2)
    have h3 : rep (b - t) := by
      obtain ⟨q, y1, y2, y3⟩ := hb.place
      have n1 := hs.half (q + 1) (by rw [Nat.pow_succ]; omega)
      rw [Nat.pow_succ] at n1
      have n2 := ht.near hb
      rcases y3 with y3 | y3
      · subst y3
        exact rep_of 0 (Nat.one_dvd _) (by rw [Nat.pow_zero] at *; omega)
      · rcases Nat.eq_zero_or_pos q with z | z
        · subst z
          exact rep_of 0 (Nat.one_dvd _) (by rw [Nat.pow_zero] at *; omega)
        · obtain ⟨j, rfl⟩ : ∃ j, q = j + 1 := ⟨q - 1, by omega⟩
          rw [Nat.pow_succ] at n1 y2 y3
          have hj := Nat.two_pow_pos j
          have h4 := ht.rep.dvd j (ht.big j (by omega))
          exact rep_of j (dvd_sub (dvd_le y1 (by omega)) h4) (by omega)
    obtain rfl := hd'.exact h3
    rw [show -(s + -a - t) + (b - t) = a + b - s by omega] at he
    obtain rfl := he.exact herr
    omega

/-- Of two numbers of one sign, neither more than twice the other, the difference is representable. -/
theorem sterbenz {x y : Nat} (hx : ∃ r, x = U 23 r) (hy : ∃ r, y = U 23 r) (h1 : x ≤ 2 * y) (h2 : y ≤ x) : ∃ r, x - y = U 23 r := by
  have ry : rep (y : Int) := by obtain ⟨r, h⟩ := hy; exact ⟨r, h⟩
  have rx : rep (x : Int) := by obtain ⟨r, h⟩ := hx; exact ⟨r, h⟩
  obtain ⟨q, y1, y2, y3⟩ := ry.place
  obtain ⟨p, x1, x2, x3⟩ := rx.place
  have hqp : q ≤ p := by
    rcases Nat.lt_or_ge p q with c | c
    · exfalso
      have : 2 ^ (p + 1) ≤ 2 ^ q := Nat.pow_le_pow_right (by omega) c
      rw [Nat.pow_succ] at this
      have := Nat.two_pow_pos p
      rcases y3 with y3 | y3 <;> omega
    · exact c
  have : rep ((x : Int) - y) := rep_of q (dvd_sub (dvd_le x1 hqp) y1) (by omega)
  obtain ⟨r, h⟩ := this
  exact ⟨r, by omega⟩
end Lathe

namespace Lathe
open Ieee
/-- The digits with their sign. -/
def M (a : Nat) : Int := if sg a then -((mg a : Nat) : Int) else ((mg a : Nat) : Int)
theorem M_abs (a : Nat) : (M a).natAbs = mg a := by unfold M; split <;> omega
theorem M_le (a : Nat) : -16777216 ≤ M a ∧ M a ≤ 16777216 := by
  have := mg_lt a
  have := M_abs a
  omega
theorem pow_cast (d : Nat) : (2 : Int) ^ d = ((2 ^ d : Nat) : Int) := by simp
theorem V_M (a : Nat) : V a = M a * 2 ^ kk a := by
  unfold V M
  rw [U_mg, pow_cast]
  split
  · rw [Int.neg_mul, Int.natCast_mul]
  · rw [Int.natCast_mul]
theorem V_shift (a L : Nat) (h : L ≤ kk a) : M a * 2 ^ (kk a - L) * 2 ^ L = V a := by
  rw [V_M, Int.mul_assoc, ← Int.pow_add]
  congr 2
  omega
/-- An answer that is finite. -/
theorem Is.fin {s : Bool} {c : Nat → Ordering} {x : Nat} (h : Is s c x) (hx : rg x < 2139095040) : NearC 23 (rg x) c ∧ sg x = s := by
  obtain ⟨R, h, rfl⟩ := h
  rw [rg_pk (by omega)] at hx ⊢
  rw [sg_pk (by omega)]
  have : min R 2139095040 = R := by omega
  rw [this]
  exact ⟨h, rfl⟩
theorem lt_sq {x : Int} (h0 : -16777216 ≤ x) (h1 : x ≤ 16777216) {d : Nat} (hd : d ≤ 36) : -1152921504606846976 ≤ x * 2 ^ d ∧ x * 2 ^ d ≤ 1152921504606846976 := by
  have hp : 2 ^ d ≤ 2 ^ 36 := Nat.pow_le_pow_right (by omega) hd
  rw [show (2 : Nat) ^ 36 = 68719476736 from rfl] at hp
  have e := natAbs_mul_pow x d
  rw [pow_cast]
  have : x.natAbs * 2 ^ d ≤ 16777216 * 68719476736 := Nat.mul_le_mul (by omega) hp
  generalize x.natAbs * 2 ^ d = X at *
  omega

/-- A sum's place and digits. -/
theorem add_near {a b : Nat} (ha : rg a < 2139095040) (hb : rg b < 2139095040) (hz : rg (fadd a b) < 2139095040) :
    2 * (mg (fadd a b) * 2 ^ kk (fadd a b)) ≤ 2 * (V a + V b).natAbs + 2 ^ kk (fadd a b) ∧ 2 * (V a + V b).natAbs ≤ 2 * (mg (fadd a b) * 2 ^ kk (fadd a b)) + 2 ^ kk (fadd a b) ∧
      (2 * (mg (fadd a b) * 2 ^ kk (fadd a b)) = 2 * (V a + V b).natAbs + 2 ^ kk (fadd a b) ∨ 2 * (V a + V b).natAbs = 2 * (mg (fadd a b) * 2 ^ kk (fadd a b)) + 2 ^ kk (fadd a b) → mg (fadd a b) % 2 = 0) ∧
      (V a + V b ≠ 0 → sg (fadd a b) = decide (V a + V b < 0)) := by
  obtain ⟨h, hs⟩ := (fadd_fin ha hb).fin hz
  have := near_ulp (near_iff.2 h) (rg_form _) (mg_lt _) (mg_ge _)
  rw [Nat.mul_one, Nat.mul_one] at this
  refine ⟨this.1, this.2.1, this.2.2, fun hn => ?_⟩
  rw [hs, if_neg hn]
/-- A product's. -/
theorem mul_near {a b d : Nat} (ha : rg a < 2139095040) (hb : rg b < 2139095040) (hz : rg (fmul a b) < 2139095040) (hd : d + kk a + kk b = kk (fmul a b) + 149) :
    2 * (M a * M b - M (fmul a b) * 2 ^ d).natAbs ≤ 2 ^ d ∧ (2 * (M a * M b - M (fmul a b) * 2 ^ d).natAbs = 2 ^ d → M (fmul a b) % 2 = 0) := by
  obtain ⟨h, hs⟩ := (fmul_fin ha hb).fin hz
  have := near_ulp (near_iff.2 h) (rg_form _) (mg_lt _) (mg_ge _)
  generalize hzz : fmul a b = z at *
  rw [U_mg, U_mg] at this
  have e1 : 2 ^ kk z * 2 ^ 149 = 2 ^ d * (2 ^ kk a * 2 ^ kk b) := by
    rw [← Nat.pow_add, ← Nat.pow_add, ← Nat.pow_add]; congr 1; omega
  have e2 : mg z * 2 ^ kk z * 2 ^ 149 = mg z * 2 ^ d * (2 ^ kk a * 2 ^ kk b) := by rw [Nat.mul_assoc, e1, Nat.mul_assoc]
  have e3 : mg a * 2 ^ kk a * (mg b * 2 ^ kk b) = mg a * mg b * (2 ^ kk a * 2 ^ kk b) := by grind
  rw [e1, e2, e3] at this
  have hQ : 0 < 2 ^ kk a * 2 ^ kk b := Nat.mul_pos (Nat.two_pow_pos _) (Nat.two_pow_pos _)
  generalize 2 ^ kk a * 2 ^ kk b = Q at *
  have hD := Nat.two_pow_pos d
  have hm : M a * M b = if sg z then -((mg a * mg b : Nat) : Int) else ((mg a * mg b : Nat) : Int) := by
    unfold M
    rw [hs, Int.natCast_mul]
    cases sg a <;> cases sg b <;> simp [Int.neg_mul, Int.mul_neg]
  have hM : M z * 2 ^ d = if sg z then -((mg z * 2 ^ d : Nat) : Int) else ((mg z * 2 ^ d : Nat) : Int) := by
    unfold M
    rw [pow_cast, Int.natCast_mul]
    cases sg z <;> simp [Int.neg_mul]
  have hpar : mg z % 2 = 0 → M z % 2 = 0 := by unfold M; split <;> omega
  rw [hm, hM]
  generalize mg a * mg b = X at *
  generalize mg z * 2 ^ d = Y at *
  generalize 2 ^ d = D at *
  obtain ⟨t1, t2, t3⟩ := this
  have s1 : 2 * Y ≤ 2 * X + D := Nat.le_of_mul_le_mul_right (c := Q) (by rw [Nat.add_mul, Nat.mul_assoc 2 Y Q, Nat.mul_assoc 2 X Q]; exact t1) hQ
  have s2 : 2 * X ≤ 2 * Y + D := Nat.le_of_mul_le_mul_right (c := Q) (by rw [Nat.add_mul, Nat.mul_assoc 2 Y Q, Nat.mul_assoc 2 X Q]; exact t2) hQ
  refine ⟨by split <;> omega, fun e => hpar (t3 ?_)⟩
  have : 2 * Y = 2 * X + D ∨ 2 * X = 2 * Y + D := by split at e <;> omega
  rcases this with e | e
  · left
    rw [← Nat.mul_assoc, ← Nat.mul_assoc, ← Nat.add_mul, e]
  · right
    rw [← Nat.mul_assoc, ← Nat.mul_assoc, ← Nat.add_mul, e]
end Lathe

namespace Lathe
open Ieee
/-- A quotient's place and digits. -/
theorem div_near {a b d : Nat} (ha : rg a < 2139095040) (hb : rg b < 2139095040) (h0 : rg b ≠ 0) (hz : rg (fdiv a b) < 2139095040) (hd : d + kk b + kk (fdiv a b) = kk a + 149) :
    2 * (mg (fdiv a b) * mg b) ≤ 2 * (mg a * 2 ^ d) + mg b ∧ 2 * (mg a * 2 ^ d) ≤ 2 * (mg (fdiv a b) * mg b) + mg b ∧
      (2 * (mg (fdiv a b) * mg b) = 2 * (mg a * 2 ^ d) + mg b ∨ 2 * (mg a * 2 ^ d) = 2 * (mg (fdiv a b) * mg b) + mg b → mg (fdiv a b) % 2 = 0) ∧ sg (fdiv a b) = (sg a ^^ sg b) := by
  obtain ⟨h, hs⟩ := (fdiv_fin ha hb h0).fin hz
  have := near_ulp (near_iff.2 h) (rg_form _) (mg_lt _) (mg_ge _)
  generalize hzz : fdiv a b = z at *
  rw [U_mg, U_mg] at this
  have e1 : 2 ^ kk z * (mg b * 2 ^ kk b) = mg b * (2 ^ kk z * 2 ^ kk b) := by grind
  have e2 : mg z * 2 ^ kk z * (mg b * 2 ^ kk b) = mg z * mg b * (2 ^ kk z * 2 ^ kk b) := by grind
  have e3 : mg a * 2 ^ kk a * 2 ^ 149 = mg a * 2 ^ d * (2 ^ kk z * 2 ^ kk b) := by
    rw [Nat.mul_assoc, Nat.mul_assoc, ← Nat.pow_add, ← Nat.pow_add, ← Nat.pow_add]; congr 2; omega
  rw [e1, e2, e3] at this
  have hQ : 0 < 2 ^ kk z * 2 ^ kk b := Nat.mul_pos (Nat.two_pow_pos _) (Nat.two_pow_pos _)
  generalize 2 ^ kk z * 2 ^ kk b = Q at *
  generalize mg a * 2 ^ d = X at *
  generalize hY : mg z * mg b = Y at *
  generalize mg b = D at *
  obtain ⟨t1, t2, t3⟩ := this
  have s1 : 2 * Y ≤ 2 * X + D := Nat.le_of_mul_le_mul_right (c := Q) (by rw [Nat.add_mul, Nat.mul_assoc 2 Y Q, Nat.mul_assoc 2 X Q]; exact t1) hQ
  have s2 : 2 * X ≤ 2 * Y + D := Nat.le_of_mul_le_mul_right (c := Q) (by rw [Nat.add_mul, Nat.mul_assoc 2 Y Q, Nat.mul_assoc 2 X Q]; exact t2) hQ
  refine ⟨s1, s2, fun e => t3 ?_, hs⟩
  rcases e with e | e
  · left
    rw [← Nat.mul_assoc, ← Nat.mul_assoc, ← Nat.add_mul, e]
  · right
    rw [← Nat.mul_assoc, ← Nat.mul_assoc, ← Nat.add_mul, e]

/-- Sums, products do not mind the order. -/
theorem sum_comm (d e : Datum) : d.sum e = e.sum d := by
  cases d with
  | number s m p =>
    cases e with
    | number t n q =>
      simp only [Datum.sum]
      rw [Int.min_comm q p, Int.add_comm (signed t n _), Bool.and_comm]
    | infinity t => rfl
    | nan t z => rfl
  | infinity s =>
    cases e with
    | number t n q => rfl
    | infinity t => cases s <;> cases t <;> rfl
    | nan t z => rfl
  | nan s z => rw [sum_nanr]; rfl
theorem fadd_comm (a b : Nat) : fadd a b = fadd b a := by
  unfold fadd Format.add
  rw [sum_comm]
theorem product_comm (d e : Datum) : d.product e = e.product d := by
  cases d with
  | number s m p =>
    cases e with
    | number t n q =>
      simp only [Datum.product]
      rw [Nat.mul_comm n m, Int.add_comm q p, Bool.xor_comm t s]
    | infinity t => simp only [Datum.product]
    | nan t z => rfl
  | infinity s =>
    cases e with
    | number t n q => simp only [Datum.product]
    | infinity t => cases s <;> cases t <;> rfl
    | nan t z => rfl
  | nan s z => rw [product_nanr]; rfl
theorem fmul_comm (a b : Nat) : fmul a b = fmul b a := by
  unfold fmul Format.mul
  rw [product_comm]
theorem key_inj {a b : Nat} (ha : a < 4294967296) (hb : b < 4294967296) (k : key a = key b) : a = b := by
  have pa := pk_of ha
  have pb := pk_of hb
  unfold key at k
  have hh : sg a = sg b ∧ rg a = rg b := by
    cases h1 : sg a <;> cases h2 : sg b <;> simp only [h1, h2, Bool.false_eq_true, if_false, if_true] at k <;> first | (exact ⟨rfl, by omega⟩) | omega
  rw [← pa, ← pb, hh.1, hh.2]
theorem fmin_comm {a b : Nat} (ha : a < 4294967296) (hb : b < 4294967296) : fmin a b = fmin b a := by
  by_cases h : 2139095040 < rg a ∨ 2139095040 < rg b
  · rw [fmin_nan h, fmin_nan (h.symm)]
  · rw [fmin_num (by omega) (by omega) ha hb, fmin_num (by omega) (by omega) hb ha]
    have := key_inj ha hb
    split <;> split <;> first | rfl | omega | (exact this (by omega)) | (exact (this (by omega)).symm)
theorem fmax_comm {a b : Nat} (ha : a < 4294967296) (hb : b < 4294967296) : fmax a b = fmax b a := by
  by_cases h : 2139095040 < rg a ∨ 2139095040 < rg b
  · rw [fmax_nan h, fmax_nan (h.symm)]
  · rw [fmax_num (by omega) (by omega) ha hb, fmax_num (by omega) (by omega) hb ha]
    have := key_inj ha hb
    split <;> split <;> first | rfl | omega | (exact this (by omega)) | (exact (this (by omega)).symm)
theorem feq_comm (a b : Nat) : feq a b = feq b a := by
  by_cases h : 2139095040 < rg a ∨ 2139095040 < rg b
  · rw [feq_nan h, feq_nan (h.symm)]
  · rw [feq_num (by omega) (by omega), feq_num (by omega) (by omega), decide_eq_decide]
    exact ⟨Eq.symm, Eq.symm⟩
theorem flip_pk {s : Bool} {r : Nat} (h : r < 2147483648) : flip (pk s r) = pk (!s) r := by
  unfold pk
  cases s
  · simp only [Bool.false_eq_true, if_false, Bool.not_false, if_true]
    rw [flip_lt (by omega), if_pos h]; omega
  · simp only [if_true, Bool.not_true, Bool.false_eq_true, if_false]
    rw [flip_lt (by omega), if_neg (by omega)]; omega
theorem write_opp (d : Datum) : single.write d.opposite = flip (single.write d) ∨ d.isNaN = true := by
  cases d with
  | number s m p =>
    left
    obtain ⟨R, h, e⟩ := write_number s m p
    obtain ⟨R', h', e'⟩ := write_number (!s) m p
    have : R = R' := h.unique h' (sane_cq _ _ (Nat.two_pow_pos _))
    subst this
    show single.write (.number (!s) m p) = _
    rw [e, e', flip_pk (by omega)]
  | infinity s =>
    left
    show single.write (.infinity (!s)) = _
    rw [write_inf, write_inf, flip_pk (by omega)]
  | nan s z => right; rfl
theorem product_opp (d e : Datum) : d.opposite.product e = (d.product e).map Datum.opposite := by
  cases d with
  | number s m p =>
    cases e with
    | number t n q => simp [Datum.opposite, Datum.product]
    | infinity t =>
      simp only [Datum.opposite, Datum.product]
      split <;> simp [Datum.opposite]
    | nan t z => rfl
  | infinity s =>
    cases e with
    | number t n q =>
      simp only [Datum.opposite, Datum.product]
      split <;> simp [Datum.opposite]
    | infinity t => simp [Datum.opposite, Datum.product]
    | nan t z => rfl
  | nan s z => rfl
theorem quotient_opp (k : Nat) (d e : Datum) : d.opposite.quotient k e = (d.quotient k e).map Datum.opposite := by
  cases d with
  | number s m p =>
    cases e with
    | number t n q =>
      simp only [Datum.opposite, Datum.quotient]
      split
      · split <;> simp [Datum.opposite]
      · simp [Datum.opposite]
    | infinity t => simp [Datum.opposite, Datum.quotient]
    | nan t z => rfl
  | infinity s =>
    cases e with
    | number t n q => simp [Datum.opposite, Datum.quotient]
    | infinity t => rfl
    | nan t z => rfl
  | nan s z => rfl
theorem fneg_res {o : Option Datum} (h : ∀ d, o = some d → d.isNaN = false) : res ((o.map Datum.opposite).map single.write) = fneg (res (o.map single.write)) := by
  cases o with
  | none => show (2143289344 : Nat) = fneg 2143289344; decide
  | some d =>
    have h := h d rfl
    show single.write d.opposite = fneg (single.write d)
    rcases write_opp d with e | e
    · rw [fneg_num (Ieee.Format.write_lt Ieee.single d) (rg_write d h)]
      exact e
    · rw [h] at e; cases e
theorem fmul_neg {a : Nat} (ha : a < 4294967296) (b : Nat) : fmul (fneg a) b = fneg (fmul a b) := by
  rcases Nat.lt_or_ge 2139095040 (rg a) with c | c
  · rw [fneg_nan ha c, fmul_nan (a := a) (.inl c), fmul_nan (.inl (by decide))]
    decide
  · rw [fneg_num ha c]
    unfold fmul Format.mul
    rw [read_flip ha, product_opp, fneg_res (fun d e => product_nan e)]
theorem fdiv_neg {a : Nat} (ha : a < 4294967296) (b : Nat) : fdiv (fneg a) b = fneg (fdiv a b) := by
  rcases Nat.lt_or_ge 2139095040 (rg a) with c | c
  · rw [fneg_nan ha c, fdiv_nan (a := a) (.inl c), fdiv_nan (.inl (by decide))]
    decide
  · rw [fneg_num ha c]
    unfold fdiv Format.div
    rw [read_flip ha, quotient_opp, fneg_res (fun d e => quotient_nan e)]
theorem fneg_fneg {a : Nat} (ha : a < 4294967296) (h : rg a ≤ 2139095040) : fneg (fneg a) = a := by
  rw [fneg_num ha h, fneg_num (flip_lt' ha) (by rw [rg_flip ha]; exact h), flip_lt (flip_lt' ha), flip_lt ha]
  split <;> split <;> omega
theorem V_zero_rg {a : Nat} : V a = 0 ↔ rg a = 0 := by
  have h3 : rg a = 0 ↔ U 23 (rg a) = 0 := ⟨fun h => by rw [h, U_zero], fun h => Nat.eq_zero_of_not_pos fun z => by have := U_pos (f := 23) z; omega⟩
  unfold V
  split <;> omega
theorem fsub_self {a : Nat} (ha : a < 4294967296) (h : rg a < 2139095040) : fsub a a = 0 := by
  rw [fsub_flip ha]
  obtain ⟨R, g, e⟩ := fadd_fin h (b := flip a) (by rw [rg_flip ha]; exact h)
  have hv : V a + V (flip a) = 0 := by rw [V_flip ha]; omega
  rw [hv] at g e
  have g := near_iff.2 g
  have : R = 0 := g.unique (Near.self 23 0) (by omega) (by omega) (by rw [U_zero]; rfl)
  rw [e, this, sg_flip ha]
  cases sg a <;> rfl
end Lathe
