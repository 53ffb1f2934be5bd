/- The reference's rounding is the nearest number. No condition. -/
import Derived.Test.YtmfladkimmnccaaRef
import Derived.Test.YtmfladkimmnccaaFpc
import Derived.Test.YtmfladkimmnccaaPGx2
import Derived.Test.YtmfladkimmnccaaPGx3
namespace Go.Proofs.Ytmfladkimmnccaa.Rla
open Go.RowKit Lathe Go.Proofs.Ytmfladkimmnccaa.PG Go.Proofs.Ytmfladkimmnccaa.Ref Go.Proofs.YtmfladkimmnccaaW.PrintWords Go.Proofs.YtmfladkimmnccaaW.PrintMore

theorem w64 {n : Int} (h0 : -9223372036854775808 ≤ n) (h1 : n ≤ 9223372036854775807) : wrap64 n = n := by
  unfold wrap64
  omega
theorem u64 {n : Int} (h0 : 0 ≤ n) (h1 : n < 18446744073709551616) : IntKind.u64.wrap n = n := wrap_u64_small h0 h1

/-- How many bits. -/
def blen (x : Nat) : Nat := if x = 0 then 0 else x.log2 + 1
theorem blen_half {x : Nat} (h : x ≠ 0) : blen x = blen (x / 2) + 1 := by
  unfold blen
  rw [if_neg h]
  by_cases c : x / 2 = 0
  · have hx : x = 1 := by omega
    subst hx
    have : Nat.log2 1 = 0 := by decide
    simp [this]
  · rw [if_neg c, Nat.log2_def x, if_pos (by omega)]

theorem length_l0 : ∀ (n k x : Nat) (c : Int), x < 2 ^ n → n < k → 0 ≤ c → c + n ≤ 1000000 → latheref02_length.l0 k x c = some (c + blen x)
  | 0, k, x, c, hx, hk, hc, hcn => by
    obtain ⟨k, rfl⟩ : ∃ m, k = m + 1 := ⟨k - 1, by omega⟩
    have : x = 0 := by simp at hx; omega
    subst this
    simp [latheref02_length.l0, blen]
  | n + 1, k, x, c, hx, hk, hc, hcn => by
    obtain ⟨k, rfl⟩ : ∃ m, k = m + 1 := ⟨k - 1, by omega⟩
    unfold latheref02_length.l0
    by_cases h : x = 0
    · subst h
      simp [blen]
    · rw [if_pos (by omega), w64 (by omega) (by omega)]
      have e : (x : Int) / 2 = ((x / 2 : Nat) : Int) := by omega
      rw [e, length_l0 n k (x / 2) (c + 1) (by rw [Nat.pow_succ] at hx; omega) (by omega) (by omega) (by omega), blen_half h]
      simp
      omega
theorem length_f (k x : Nat) (hx : x < 18446744073709551616) (hk : 66 ≤ k) : latheref02_length.f k x = some (blen x : Int) := by
  unfold latheref02_length.f
  rw [length_l0 64 k x 0 (by omega) (by omega) (by omega) (by omega)]
  simp

theorem sign_f (s : Bool) : latheref02_sign.f s = some (if s then 2147483648 else 0) := by cases s <;> rfl
theorem zero_f (s : Bool) : latheref02_zero.f s = some ((pk s 0 : Nat) : Int) := by
  unfold latheref02_zero.f
  rw [sign_f]
  simp only [Option.bind_some]
  cases s
  · simp only [Bool.false_eq_true, if_false]
    rw [w64 (by omega) (by omega)]; rfl
  · simp only [if_true]
    rw [w64 (by omega) (by omega)]; rfl
theorem infinite_f (s : Bool) : latheref02_infinite.f s = some ((pk s 2139095040 : Nat) : Int) := by
  unfold latheref02_infinite.f
  rw [sign_f]
  simp only [Option.bind_some]
  cases s
  · simp only [Bool.false_eq_true, if_false]
    rw [u64 (by omega) (by omega), w64 (by omega) (by omega)]; rfl
  · simp only [if_true]
    rw [u64 (by omega) (by omega), w64 (by omega) (by omega)]; rfl

theorem Round_j1 (k : Nat) (s : Bool) (j q : Nat) (hk : 1 ≤ k) (hj : j ≤ 1000000) (h1 : j = 0 ∨ 8388608 ≤ q) (h2 : q < 16777216) :
    latheref02_Round.j1 k s ((j : Int) - 149) q = some ((pk s (min (j * 8388608 + q) 2139095040) : Nat) : Int) := by
  obtain ⟨k, rfl⟩ : ∃ m, k = m + 1 := ⟨k - 1, by omega⟩
  rw [latheref02_Round.j1]
  by_cases c : q < 8388608
  · obtain rfl : j = 0 := by omega
    rw [if_pos (by omega), sign_f]
    simp only [Option.bind_some]
    rw [Nat.min_eq_left (by omega)]
    unfold pk
    cases s
    · simp only [Bool.false_eq_true, if_false]
      rw [u64 (by omega) (by omega), w64 (by omega) (by omega)]
      first | rfl | (congr 1; omega)
    · simp only [if_true]
      rw [u64 (by omega) (by omega), w64 (by omega) (by omega)]
      first | rfl | (congr 1; omega)
  · rw [if_neg (by omega), w64 (by omega) (by omega)]
    by_cases d : 255 ≤ j + 1
    · rw [if_pos (by omega), infinite_f, Nat.min_eq_right (by omega)]
      rfl
    · rw [if_neg (by omega), sign_f]
      simp only [Option.bind_some]
      rw [Nat.min_eq_left (by omega)]
      rw [u64 (n := (j : Int) - 149 + 150) (by omega) (by omega), u64 (n := ((j : Int) - 149 + 150) * 8388608) (by omega) (by omega)]
      unfold pk
      cases s
      · simp only [Bool.false_eq_true, if_false]
        rw [u64 (n := 0 + _) (by omega) (by omega), u64 (n := _ + (q : Int)) (by omega) (by omega), u64 (by omega) (by omega), w64 (by omega) (by omega)]
        first | rfl | (congr 1; omega)
      · simp only [if_true]
        rw [u64 (n := 2147483648 + _) (by omega) (by omega), u64 (n := _ + (q : Int)) (by omega) (by omega), u64 (by omega) (by omega), w64 (by omega) (by omega)]
        first | rfl | (congr 1; omega)

theorem Round_j0 (k : Nat) (s : Bool) (j q : Nat) (hk : 2 ≤ k) (hj : j ≤ 100000) (h1 : j = 0 ∨ 8388608 ≤ q) (h2 : q ≤ 16777216) :
    latheref02_Round.j0 k s ((j : Int) - 149) q = some ((pk s (min (j * 8388608 + q) 2139095040) : Nat) : Int) := by
  obtain ⟨k, rfl⟩ : ∃ m, k = m + 1 := ⟨k - 1, by omega⟩
  rw [latheref02_Round.j0]
  by_cases c : q = 16777216
  · subst c
    rw [if_pos (by omega), w64 (by omega) (by omega)]
    obtain ⟨q, hq⟩ : ∃ q : Nat, q = 8388608 := ⟨_, rfl⟩
    have := Round_j1 k s (j + 1) q (by omega) (by omega) (by omega) (by omega)
    rw [show (j : Int) - 149 + 1 = ((j + 1 : Nat) : Int) - 149 by omega, show (8388608 : Int) = (q : Int) by omega, this]
    rw [show (j + 1) * 8388608 + q = j * 8388608 + 16777216 by omega]
  · rw [if_neg (by omega)]
    exact Round_j1 k s j q (by omega) (by omega) h1 (by omega)

/-- Round: the number of that sign that lies nearest. -/
theorem Round_f (k : Nat) (s : Bool) (m : Nat) (e : Int) (hk : 70 ≤ k) (hm : m < 18446744073709551616) (h0 : -10000 ≤ e) (h1 : e ≤ 10000) :
    latheref02_Round.f k s m e = some ((Ieee.single.write (.number s m e) : Nat) : Int) := by
  by_cases hz : m = 0
  · subst hz
    unfold latheref02_Round.f
    rw [if_pos (by rfl), zero_f]
    show some _ = some ((Ieee.single.nearest s 0 e : Nat) : Int)
    simp [Ieee.Format.nearest, word_]
  · suffices h : ∃ x : Nat, latheref02_Round.f k s m e = some (x : Int) ∧ Is s (cq (m * 2 ^ (e + 149).toNat) (2 ^ (-149 - e).toNat)) x by
      obtain ⟨x, h1, h2⟩ := h
      rw [h1, h2.unique (write_number s m e) (sane_cq _ _ (Nat.two_pow_pos _))]
    have hb : blen m = m.log2 + 1 := by unfold blen; rw [if_neg hz]
    have l1 := Nat.log2_self_le hz
    have l2 : m < 2 ^ (m.log2 + 1) := Nat.lt_log2_self
    have lg : m.log2 < 64 := (Nat.log2_lt hz).2 (by omega)
    unfold latheref02_Round.f
    rw [if_neg (by omega), length_f k m hm (by omega), hb]
    simp only [Option.bind_some]
    generalize m.log2 = g at *
    obtain ⟨last, hlast⟩ : ∃ l, l = max (e + g - 23) (-149) := ⟨_, rfl⟩
    have hmx : mx (wrap64 (wrap64 (e + ((g + 1 : Nat) : Int)) - 24)) (-149) = last := by
      rw [w64 (n := e + _) (by omega) (by omega), w64 (by omega) (by omega)]
      unfold mx
      split <;> omega
    rw [hmx, w64 (n := last - e) (by omega) (by omega)]
    have hj : ∃ j : Nat, last = (j : Int) - 149 ∧ j ≤ 100000 := ⟨(last + 149).toNat, by omega, by omega⟩
    obtain ⟨j, hj, hj2⟩ := hj
    by_cases c : last ≤ e
    · rw [if_pos (by omega), w64 (n := -(last - e)) (by omega) (by omega), u64 (n := -(last - e)) (by omega) (by omega), if_pos (by omega)]
      -- the shift
      have hn : m * 2 ^ (e - last).toNat < 2 ^ 24 := by
        have : m * 2 ^ (e - last).toNat < 2 ^ (g + 1) * 2 ^ (e - last).toNat := Nat.mul_lt_mul_of_pos_right l2 (Nat.two_pow_pos _)
        rw [← Nat.pow_add] at this
        exact Nat.lt_of_lt_of_le this (Nat.pow_le_pow_right (by omega) (by omega))
      have hk' : j = 0 ∨ 2 ^ 23 ≤ m * 2 ^ (e - last).toNat := by
        by_cases z : last = -149
        · left; omega
        · right
          have : 2 ^ g * 2 ^ (e - last).toNat ≤ m * 2 ^ (e - last).toNat := Nat.mul_le_mul_right _ l1
          rw [← Nat.pow_add] at this
          exact Nat.le_trans (Nat.pow_le_pow_right (by omega) (by omega)) this
      have hs : shl .u64 (m : Int) (-(last - e)) = ((m * 2 ^ (e - last).toNat : Nat) : Int) := by
        unfold shl
        have e1 : min (-(last - e)).toNat IntKind.u64.bits = (e - last).toNat := by
          have : IntKind.u64.bits = 64 := rfl
          rw [this]; omega
        rw [e1]
        have e2 : (m : Int) * 2 ^ (e - last).toNat = ((m * 2 ^ (e - last).toNat : Nat) : Int) := by norm_cast
        have h9 : m * 2 ^ (e - last).toNat < 18446744073709551616 := by omega
        rw [e2, u64 (Int.natCast_nonneg _) (Int.ofNat_lt.2 h9)]
      have hR := Round_j0 k s j (m * 2 ^ (e - last).toNat) (by omega) hj2 (by omega) (by omega)
      rw [← hj] at hR
      rw [hs, hR]
      refine ⟨_, rfl, _, near_iff.1 ?_, rfl⟩
      have hU := U_form 23 j (m * 2 ^ (e - last).toNat) (by omega) hk'
      have := Near.self 23 (j * 2 ^ 23 + m * 2 ^ (e - last).toNat)
      rw [hU, Nat.mul_assoc, ← Nat.pow_add, show (e - last).toNat + j = (e + 149).toNat by omega] at this
      rw [show (-149 - e).toNat = 0 by omega, Nat.pow_zero]
      exact this
    · rw [if_neg (by omega)]
      have hh : latheref02_halved.f (m : Int) (last - e) = some ((hv m (last - e).toNat : Nat) : Int) := by
        unfold latheref02_halved.f
        rw [if_pos (by omega), Int.toNat_natCast]
      rw [hh]
      simp only [Option.bind_some]
      have hc := hv_cut m (last - e).toNat
      have hq1 : m < 2 ^ (23 + 1 + (last - e).toNat) := Nat.lt_of_lt_of_le l2 (Nat.pow_le_pow_right (by omega) (by omega))
      have hq2 : j = 0 ∨ 2 ^ (23 + (last - e).toNat) ≤ m := by
        by_cases z : last = -149
        · left; omega
        · right
          exact Nat.le_trans (Nat.pow_le_pow_right (by omega) (by omega)) l1
      have hex : (e + 149).toNat + (last - e).toNat = j + (-149 - e).toNat := by omega
      have hN := Near.of_cut (f := 23) (k := j) (p := m * 2 ^ (e + 149).toNat) (q := 2 ^ (-149 - e).toNat) (by omega) hc (by omega) hq1 hq2 (Nat.two_pow_pos _) (by
        rw [Nat.mul_assoc, Nat.mul_assoc, ← Nat.pow_add, ← Nat.pow_add, hex])
      -- the rounded digits lie within the binade
      have hD := Nat.two_pow_pos (last - e).toNat
      generalize hd : (last - e).toNat = d at *
      have b1 : hv m d ≤ 16777216 := by
        rw [Nat.pow_add, show (2 : Nat) ^ (23 + 1) = 16777216 from rfl] at hq1
        rcases Nat.lt_or_ge 16777216 (hv m d) with x | x
        · exfalso
          have := Nat.mul_le_mul_right (2 ^ d) (show 16777217 ≤ hv m d from x)
          have e1 : 2 * hv m d * 2 ^ d = 2 * (hv m d * 2 ^ d) := Nat.mul_assoc ..
          have := hc.1
          omega
        · exact x
      have b2 : j = 0 ∨ 8388608 ≤ hv m d := by
        rcases hq2 with h | h
        · exact .inl h
        · right
          rw [Nat.pow_add, show (2 : Nat) ^ 23 = 8388608 from rfl] at h
          rcases Nat.lt_or_ge (hv m d) 8388608 with x | x
          · exfalso
            have := Nat.mul_le_mul_right (2 ^ d) (show hv m d + 1 ≤ 8388608 from x)
            have e1 : 2 * hv m d * 2 ^ d = 2 * (hv m d * 2 ^ d) := Nat.mul_assoc ..
            have e2 : (hv m d + 1) * 2 ^ d = hv m d * 2 ^ d + 2 ^ d := Nat.succ_mul ..
            have := hc.2
            omega
          · exact x
      have hR := Round_j0 k s j (hv m d) (by omega) hj2 b2 b1
      rw [← hj] at hR
      rw [hR]
      exact ⟨_, rfl, _, near_iff.1 hN, rfl⟩
end Go.Proofs.Ytmfladkimmnccaa.Rla
