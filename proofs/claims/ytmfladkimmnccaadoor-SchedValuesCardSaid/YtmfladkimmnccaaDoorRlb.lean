/- The reference's rounding is the nearest number. No condition. -/
import Derived.Test.YtmfladkimmnccaaDoorReg
import Derived.Test.YtmfladkimmnccaaDoorFpc
import Derived.Test.YtmfladkimmnccaaDoorPVx8
import Derived.Test.YtmfladkimmnccaaDoorPVx10
import Derived.Test.YtmfladkimmnccaaDoorPVx11
import Derived.Test.YtmfladkimmnccaaDoorPVx13
import Derived.Test.YtmfladkimmnccaaDoorPVx17
import Derived.Test.YtmfladkimmnccaaDoorPVx5
namespace Go.Proofs.YtmfladkimmnccaaDoor.Rla
open Go.RowKit Lathe Go.Proofs.YtmfladkimmnccaaDoor.PW Go.Proofs.YtmfladkimmnccaaDoor.Ref Go.Proofs.YtmfladkimmnccaaDoorW.PrintWords Go.Proofs.YtmfladkimmnccaaDoorW.PrintMore

theorem w64 {n : Int} (h0 : -9223372036854775808 ≤ n) (h1 : n ≤ 9223372036854775807) : wrap64 n = n := by
  unfold wrap64
  omega
theorem u64 {n : Int} (h0 : 0 ≤ n) (h1 : n < 18446744073709551616) : IntKind.u64.wrap n = n := wrap_u64_small h0 h1

/-- How many bits. -/
def blen (x : Nat) : Nat := if x = 0 then 0 else x.log2 + 1
theorem blen_half {x : Nat} (h : x ≠ 0) : blen x = blen (x / 2) + 1 := by
  unfold blen
  rw [if_neg h]
  by_cases c : x / 2 = 0
  · have hx : x = 1 := by omega
    subst hx
    have : Nat.log2 1 = 0 := by decide
    simp [this]
  · rw [if_neg c, Nat.log2_def x, if_pos (by omega)]

theorem length_l0 : ∀ (n k x : Nat) (c : Int), x < 2 ^ n → n < k → 0 ≤ c → c + n ≤ 1000000 → latheref02_length.l0 k x c = some (c + blen x)
  | 0, k, x, c, hx, hk, hc, hcn => by
    obtain ⟨k, rfl⟩ : ∃ m, k = m + 1 := ⟨k - 1, by omega⟩
    have : x = 0 := by simp at hx; omega
    subst this
    simp [latheref02_length.l0, blen]
  | n + 1, k, x, c, hx, hk, hc, hcn => by
    obtain ⟨k, rfl⟩ : ∃ m, k = m + 1 := ⟨k - 1, by omega⟩
    unfold latheref02_length.l0
    by_cases h : x = 0
    · subst h
      simp [blen]
    · rw [if_pos (by omega), w64 (by omega) (by omega)]
      have e : (x : Int) / 2 = ((x / 2 : Nat) : Int) := by omega
      rw [e, length_l0 n k (x / 2) (c + 1) (by rw [Nat.pow_succ] at hx; omega) (by omega) (by omega) (by omega), blen_half h]
      simp
      omega
theorem length_f (k x : Nat) (hx : x < 18446744073709551616) (hk : 66 ≤ k) : latheref02_length.f k x = some (blen x : Int) := by
  unfold latheref02_length.f
  rw [length_l0 64 k x 0 (by omega) (by omega) (by omega) (by omega)]
  simp

theorem sign_f (s : Bool) : latheref02_sign.f s = some (if s then 2147483648 else 0) := by cases s <;> rfl
theorem zero_f (s : Bool) : latheref02_zero.f s = some ((pk s 0 : Nat) : Int) := by
  unfold latheref02_zero.f
  rw [sign_f]
  simp only [Option.bind_some]
  cases s
  · simp only [Bool.false_eq_true, if_false]
    rw [w64 (by omega) (by omega)]; rfl
  · simp only [if_true]
    rw [w64 (by omega) (by omega)]; rfl
theorem infinite_f (s : Bool) : latheref02_infinite.f s = some ((pk s 2139095040 : Nat) : Int) := by
  unfold latheref02_infinite.f
  rw [sign_f]
  simp only [Option.bind_some]
  cases s
  · simp only [Bool.false_eq_true, if_false]
    rw [u64 (by omega) (by omega), w64 (by omega) (by omega)]; rfl
  · simp only [if_true]
    rw [u64 (by omega) (by omega), w64 (by omega) (by omega)]; rfl

theorem Round_j1 (k : Nat) (s : Bool) (j q : Nat) (hk : 1 ≤ k) (hj : j ≤ 1000000) (h1 : j = 0 ∨ 8388608 ≤ q) (h2 : q < 16777216) :
    latheref02_Round.j1 k s ((j : Int) - 149) q = some ((pk s (min (j * 8388608 + q) 2139095040) : Nat) : Int) := by
  obtain ⟨k, rfl⟩ : ∃ m, k = m + 1 := ⟨k - 1, by omega⟩
  rw [latheref02_Round.j1]
  by_cases c : q < 8388608
  · obtain rfl : j = 0 := by omega
    rw [if_pos (by omega), sign_f]
    simp only [Option.bind_some]
    rw [Nat.min_eq_left (by omega)]
    unfold pk
    cases s
    · simp only [Bool.false_eq_true, if_false]
      rw [u64 (by omega) (by omega), w64 (by omega) (by omega)]
      first | rfl | (congr 1; omega)
    · simp only [if_true]
      rw [u64 (by omega) (by omega), w64 (by omega) (by omega)]
      first | rfl | (congr 1; omega)
  · rw [if_neg (by omega), w64 (by omega) (by omega)]
    by_cases d : 255 ≤ j + 1
    · rw [if_pos (by omega), infinite_f, Nat.min_eq_right (by omega)]
      rfl
    · rw [if_neg (by omega), sign_f]
      simp only [Option.bind_some]
      rw [Nat.min_eq_left (by omega)]
      rw [u64 (n := (j : Int) - 149 + 150) (by omega) (by omega), u64 (n := ((j : Int) - 149 + 150) * 8388608) (by omega) (by omega)]
      unfold pk
      cases s
      · simp only [Bool.false_eq_true, if_false]
        rw [u64 (n := 0 + _) (by omega) (by omega), u64 (n := _ + (q : Int)) (by omega) (by omega), u64 (by omega) (by omega), w64 (by omega) (by omega)]
        first | rfl | (congr 1; omega)
      · simp only [if_true]
        rw [u64 (n := 2147483648 + _) (by omega) (by omega), u64 (n := _ + (q : Int)) (by omega) (by omega), u64 (by omega) (by omega), w64 (by omega) (by omega)]
        first | rfl | (congr 1; omega)

theorem Round_j0 (k : Nat) (s : Bool) (j q : Nat) (hk : 2 ≤ k) (hj : j ≤ 100000) (h1 : j = 0 ∨ 8388608 ≤ q) (h2 : q ≤ 16777216) :
    latheref02_Round.j0 k s ((j : Int) - 149) q = some ((pk s (min (j * 8388608 + q) 2139095040) : Nat) : Int) := by
  obtain ⟨k, rfl⟩ : ∃ m, k = m + 1 := ⟨k - 1, by omega⟩
  rw [latheref02_Round.j0]
  by_cases c : q = 16777216
  · subst c
    rw [if_pos (by omega), w64 (by omega) (by omega)]
    obtain ⟨q, hq⟩ : ∃ q : Nat, q = 8388608 := ⟨_, rfl⟩
    have := Round_j1 k s (j + 1) q (by omega) (by omega) (by omega) (by omega)
    rw [show (j : Int) - 149 + 1 = ((j + 1 : Nat) : Int) - 149 by omega, show (8388608 : Int) = (q : Int) by omega, this]
    rw [show (j + 1) * 8388608 + q = j * 8388608 + 16777216 by omega]
  · rw [if_neg (by omega)]
    exact Round_j1 k s j q (by omega) (by omega) h1 (by omega)

/-- Round: the number of that sign that lies nearest. -/
theorem Round_f (k : Nat) (s : Bool) (m : Nat) (e : Int) (hk : 70 ≤ k) (hm : m < 18446744073709551616) (h0 : -10000 ≤ e) (h1 : e ≤ 10000) :
    latheref02_Round.f k s m e = some ((Ieee.single.write (.number s m e) : Nat) : Int) := by
  by_cases hz : m = 0
  · subst hz
    unfold latheref02_Round.f
    rw [if_pos (by rfl), zero_f]
    show some _ = some ((Ieee.single.nearest s 0 e : Nat) : Int)
    simp [Ieee.Format.nearest, word_]
  · suffices h : ∃ x : Nat, latheref02_Round.f k s m e = some (x : Int) ∧ Is s (cq (m * 2 ^ (e + 149).toNat) (2 ^ (-149 - e).toNat)) x by
      obtain ⟨x, h1, h2⟩ := h
      rw [h1, h2.unique (write_number s m e) (sane_cq _ _ (Nat.two_pow_pos _))]
    have hb : blen m = m.log2 + 1 := by unfold blen; rw [if_neg hz]
    have l1 := Nat.log2_self_le hz
    have l2 : m < 2 ^ (m.log2 + 1) := Nat.lt_log2_self
    have lg : m.log2 < 64 := (Nat.log2_lt hz).2 (by omega)
    unfold latheref02_Round.f
    rw [if_neg (by omega), length_f k m hm (by omega), hb]
    simp only [Option.bind_some]
    generalize m.log2 = g at *
    obtain ⟨last, hlast⟩ : ∃ l, l = max (e + g - 23) (-149) := ⟨_, rfl⟩
    have hmx : mx (wrap64 (wrap64 (e + ((g + 1 : Nat) : Int)) - 24)) (-149) = last := by
      rw [w64 (n := e + _) (by omega) (by omega), w64 (by omega) (by omega)]
      unfold mx
      split <;> omega
    rw [hmx, w64 (n := last - e) (by omega) (by omega)]
    have hj : ∃ j : Nat, last = (j : Int) - 149 ∧ j ≤ 100000 := ⟨(last + 149).toNat, by omega, by omega⟩
    obtain ⟨j, hj, hj2⟩ := hj
    by_cases c : last ≤ e
    · rw [if_pos (by omega), w64 (n := -(last - e)) (by omega) (by omega), u64 (n := -(last - e)) (by omega) (by omega), if_pos (by omega)]
      -- the shift
      have hn : m * 2 ^ (e - last).toNat < 2 ^ 24 := by
        have : m * 2 ^ (e - last).toNat < 2 ^ (g + 1) * 2 ^ (e - last).toNat := Nat.mul_lt_mul_of_pos_right l2 (Nat.two_pow_pos _)
        rw [← Nat.pow_add] at this
        exact Nat.lt_of_lt_of_le this (Nat.pow_le_pow_right (by omega) (by omega))
      have hk' : j = 0 ∨ 2 ^ 23 ≤ m * 2 ^ (e - last).toNat := by
        by_cases z : last = -149
        · left; omega
        · right
          have : 2 ^ g * 2 ^ (e - last).toNat ≤ m * 2 ^ (e - last).toNat := Nat.mul_le_mul_right _ l1
          rw [← Nat.pow_add] at this
          exact Nat.le_trans (Nat.pow_le_pow_right (by omega) (by omega)) this
      have hs : shl .u64 (m : Int) (-(last - e)) = ((m * 2 ^ (e - last).toNat : Nat) : Int) := by
        unfold shl
        have e1 : min (-(last - e)).toNat IntKind.u64.bits = (e - last).toNat := by
          have : IntKind.u64.bits = 64 := rfl
          rw [this]; omega
        rw [e1]
        have e2 : (m : Int) * 2 ^ (e - last).toNat = ((m * 2 ^ (e - last).toNat : Nat) : Int) := by norm_cast
        have h9 : m * 2 ^ (e - last).toNat < 18446744073709551616 := by omega
        rw [e2, u64 (Int.natCast_nonneg _) (Int.ofNat_lt.2 h9)]
      have hR := Round_j0 k s j (m * 2 ^ (e - last).toNat) (by omega) hj2 (by omega) (by omega)
      rw [← hj] at hR
      rw [hs, hR]
      refine ⟨_, rfl, _, near_iff.1 ?_, rfl⟩
      have hU := U_form 23 j (m * 2 ^ (e - last).toNat) (by omega) hk'
      have := Near.self 23 (j * 2 ^ 23 + m * 2 ^ (e - last).toNat)
      rw [hU, Nat.mul_assoc, ← Nat.pow_add, show (e - last).toNat + j = (e + 149).toNat by omega] at this
      rw [show (-149 - e).toNat = 0 by omega, Nat.pow_zero]
      exact this
    · rw [if_neg (by omega)]
      have hh : latheref02_halved.f (m : Int) (last - e) = some ((hv m (last - e).toNat : Nat) : Int) := by
        unfold latheref02_halved.f
        rw [if_pos (by omega), Int.toNat_natCast]
      rw [hh]
      simp only [Option.bind_some]
      have hc := hv_cut m (last - e).toNat
      have hq1 : m < 2 ^ (23 + 1 + (last - e).toNat) := Nat.lt_of_lt_of_le l2 (Nat.pow_le_pow_right (by omega) (by omega))
      have hq2 : j = 0 ∨ 2 ^ (23 + (last - e).toNat) ≤ m := by
        by_cases z : last = -149
        · left; omega
        · right
          exact Nat.le_trans (Nat.pow_le_pow_right (by omega) (by omega)) l1
      have hex : (e + 149).toNat + (last - e).toNat = j + (-149 - e).toNat := by omega
      have hN := Near.of_cut (f := 23) (k := j) (p := m * 2 ^ (e + 149).toNat) (q := 2 ^ (-149 - e).toNat) (by omega) hc (by omega) hq1 hq2 (Nat.two_pow_pos _) (by
        rw [Nat.mul_assoc, Nat.mul_assoc, ← Nat.pow_add, ← Nat.pow_add, hex])
      -- the rounded digits lie within the binade
      have hD := Nat.two_pow_pos (last - e).toNat
      generalize hd : (last - e).toNat = d at *
      have b1 : hv m d ≤ 16777216 := by
        rw [Nat.pow_add, show (2 : Nat) ^ (23 + 1) = 16777216 from rfl] at hq1
        rcases Nat.lt_or_ge 16777216 (hv m d) with x | x
        · exfalso
          have := Nat.mul_le_mul_right (2 ^ d) (show 16777217 ≤ hv m d from x)
          have e1 : 2 * hv m d * 2 ^ d = 2 * (hv m d * 2 ^ d) := Nat.mul_assoc ..
          have := hc.1
          omega
        · exact x
      have b2 : j = 0 ∨ 8388608 ≤ hv m d := by
        rcases hq2 with h | h
        · exact .inl h
        · right
          rw [Nat.pow_add, show (2 : Nat) ^ 23 = 8388608 from rfl] at h
          rcases Nat.lt_or_ge (hv m d) 8388608 with x | x
          · exfalso
            have := Nat.mul_le_mul_right (2 ^ d) (show hv m d + 1 ≤ 8388608 from x)
            have e1 : 2 * hv m d * 2 ^ d = 2 * (hv m d * 2 ^ d) := Nat.mul_assoc ..
            have e2 : (hv m d + 1) * 2 ^ d = hv m d * 2 ^ d + 2 ^ d := Nat.succ_mul ..
            have := hc.2
            omega
          · exact x
      have hR := Round_j0 k s j (hv m d) (by omega) hj2 b2 b1
      rw [← hj] at hR
      rw [hR]
      exact ⟨_, rfl, _, near_iff.1 hN, rfl⟩
end Go.Proofs.YtmfladkimmnccaaDoor.Rla
namespace Go.Proofs.YtmfladkimmnccaaDoor.Rlb
open Go.RowKit Lathe Go.Proofs.YtmfladkimmnccaaDoor.PW Go.Proofs.YtmfladkimmnccaaDoor.Ref Go.Proofs.YtmfladkimmnccaaDoor.Rla Go.Proofs.YtmfladkimmnccaaDoorW.PrintWords Go.Proofs.YtmfladkimmnccaaDoorW.PrintMore

theorem Of_f (a : Nat) (h : a < 4294967296) : latheref02_Of.f (a : Int) = some (parts a) := by
  unfold latheref02_Of.f
  rw [if_pos (by omega), Int.toNat_natCast]
theorem Of_fin {a : Nat} (h : a < 4294967296) (c : rg a < 2139095040) : latheref02_Of.f (a : Int) = some (sg a, (mg a : Int), -149 + (kk a : Int), false, false) := by
  rw [Of_f a h]; unfold parts; rw [if_pos c]
theorem Of_inf {a : Nat} (h : a < 4294967296) (c : rg a = 2139095040) : latheref02_Of.f (a : Int) = some (sg a, 0, 0, true, false) := by
  rw [Of_f a h]; unfold parts; rw [if_neg (by omega), c]; rfl
theorem Of_nan {a : Nat} (h : a < 4294967296) (c : 2139095040 < rg a) : latheref02_Of.f (a : Int) = some (sg a, 0, 0, false, true) := by
  rw [Of_f a h]; unfold parts; rw [if_neg (by omega)]
  have h1 : (rg a == 2139095040) = false := by simp; omega
  rw [bne, h1]; rfl
theorem ends {o : Option Int} {x : Int} (h : o = some x) : (o.bind fun t => some t) = some x := by rw [h]; rfl
theorem mulc (x y : Nat) (hx : x < 16777216) (hy : y < 16777216) : IntKind.u64.wrap ((x : Int) * y) = ((x * y : Nat) : Int) := by
  have h : x * y < 16777216 * 16777216 := Nat.mul_lt_mul'' hx hy
  have e : (x : Int) * y = ((x * y : Nat) : Int) := by norm_cast
  rw [e]
  exact u64 (Int.natCast_nonneg _) (Int.ofNat_lt.2 (Nat.lt_of_lt_of_le h (by decide)))

theorem Mul_f (k a b : Nat) (ha : a < 4294967296) (hb : b < 4294967296) (hk : 80 ≤ k) : latheref02_Mul.f k a b = some ((fmul a b : Nat) : Int) := by
  obtain ⟨k, rfl⟩ : ∃ m, k = m + 2 := ⟨k - 2, by omega⟩
  have hma := mg_lt a
  have hmb := mg_lt b
  have hxor : (sg a != sg b) = (sg a ^^ sg b) := by cases sg a <;> cases sg b <;> rfl
  have hxor2 : (sg b ^^ sg a) = (sg a ^^ sg b) := by cases sg a <;> cases sg b <;> rfl
  unfold latheref02_Mul.f
  rcases Nat.lt_trichotomy (rg a) 2139095040 with c | c | c
  · rw [Of_fin ha c]
    rcases Nat.lt_trichotomy (rg b) 2139095040 with d | d | d
    · rw [Of_fin hb d]
      simp only [Option.bind_some, latheref02_nan.f, Bool.false_eq_true, if_false, latheref02_Mul.j0, latheref02_Mul.j1]
      have h1 := kk_le c
      have h2 := kk_le d
      rw [mulc _ _ hma hmb, w64 (by omega) (by omega), Round_f k _ _ _ (by omega) (by have := Nat.mul_lt_mul'' hma hmb; omega) (by omega) (by omega), fmul_num c d, hxor]
      rfl
    · rw [Of_inf hb d]
      simp only [Option.bind_some, latheref02_nan.f, Bool.false_eq_true, if_false, if_true, latheref02_Mul.j0, latheref02_Mul.j1]
      rw [fmul_fin_inf c d]
      by_cases z : rg a = 0
      · rw [if_pos z, mg_zero.2 z]
        rfl
      · rw [if_neg z]
        have hz : ((mg a : Int) == 0) = false := by
          have := mg_zero (a := a)
          simp; omega
        rw [hz]
        simp only [Bool.false_eq_true, if_false]
        rw [infinite_f, hxor, hxor2]
        rfl
    · rw [Of_nan hb d, fmul_nan (.inr d)]
      simp only [Option.bind_some, latheref02_nan.f, Bool.false_eq_true, if_false, if_true, latheref02_Mul.j0]
      rfl
  · rw [Of_inf ha c]
    rcases Nat.lt_trichotomy (rg b) 2139095040 with d | d | d
    · rw [Of_fin hb d]
      simp only [Option.bind_some, latheref02_nan.f, Bool.false_eq_true, if_false, if_true, latheref02_Mul.j0, latheref02_Mul.j1]
      rw [fmul_inf_fin c d]
      by_cases z : rg b = 0
      · rw [if_pos z, mg_zero.2 z]
        rfl
      · rw [if_neg z]
        have hz : ¬ ((mg b : Int) = 0) := by
          have := mg_zero (a := b)
          omega
        rw [if_neg hz]
        rw [infinite_f, hxor]
        rfl
    · rw [Of_inf hb d, fmul_inf_inf c d]
      simp only [Option.bind_some, latheref02_nan.f, Bool.false_eq_true, if_false, if_true, latheref02_Mul.j0, latheref02_Mul.j1]
      rw [infinite_f, hxor]
      rfl
    · rw [Of_nan hb d, fmul_nan (.inr d)]
      simp only [Option.bind_some, latheref02_nan.f, Bool.false_eq_true, if_false, if_true, latheref02_Mul.j0]
      rfl
  · rw [Of_nan ha c, fmul_nan (.inl c)]
    rw [Of_f b hb]
    simp only [Option.bind_some, latheref02_nan.f, if_true, latheref02_Mul.j0]
    rfl

theorem j2_f (k : Nat) (T e : Int) (hk : 71 ≤ k) (h0 : -2305843009213693952 ≤ T) (h1 : T ≤ 2305843009213693952) (he : -10000 ≤ e) (he' : e ≤ 10000) :
    latheref02_sum.j2 k T e = some ((Ieee.single.write (.number (decide (T < 0)) T.natAbs e) : Nat) : Int) := by
  obtain ⟨k, rfl⟩ : ∃ m, k = m + 1 := ⟨k - 1, by omega⟩
  rw [latheref02_sum.j2]
  by_cases c : T = 0
  · subst c
    rw [if_pos rfl, zero_f]
    simp [write_zero]
  · rw [if_neg c]
    by_cases d : T < 0
    · rw [if_pos d, w64 (by omega) (by omega), u64 (by omega) (by omega)]
      have e1 : -T = ((T.natAbs : Nat) : Int) := by omega
      rw [e1, Round_f k _ _ _ (by omega) (by omega) he he']
      have : decide (T < 0) = true := decide_eq_true d
      rw [this]
      simp
    · rw [if_neg d, u64 (by omega) (by omega)]
      have e1 : T = ((T.natAbs : Nat) : Int) := by omega
      have : decide (T < 0) = false := decide_eq_false d
      rw [this]
      generalize T.natAbs = t at *
      subst e1
      rw [Round_f k _ _ _ (by omega) (by omega) he he']
      rfl
theorem j0_f (k : Nat) (M e : Int) (s t : Bool) (n : Int) (i2 : Int) (b3 b4 : Bool) (y : Nat) (j2 : Int) (c3 c4 : Bool) (hk : 73 ≤ k) (h0 : 0 ≤ M) (h1 : M ≤ 1152921504606846976) (hy : y ≤ 16777216) (he : -10000 ≤ e) (he' : e ≤ 10000) (T : Int)
    (hT : T = (if s then -M else M) + (if t then -(y : Int) else (y : Int))) :
    latheref02_sum.j0 k M e s n i2 b3 b4 t y j2 c3 c4 = some ((Ieee.single.write (.number (decide (T < 0)) T.natAbs e) : Nat) : Int) := by
  obtain ⟨k, rfl⟩ : ∃ m, k = m + 2 := ⟨k - 2, by omega⟩
  rw [latheref02_sum.j0]
  cases s <;> cases t <;> simp only [Bool.false_eq_true, if_false, if_true] at hT ⊢ <;> rw [latheref02_sum.j1] <;> simp only [Bool.false_eq_true, if_false, if_true] <;> subst hT
  · rw [w64 (n := (y : Int)) (by omega) (by omega), w64 (by omega) (by omega), j2_f k _ _ (by omega) (by omega) (by omega) he he']
  · rw [w64 (n := (y : Int)) (by omega) (by omega), w64 (by omega) (by omega), ← Int.sub_eq_add_neg, j2_f k _ _ (by omega) (by omega) (by omega) he he']
  · rw [w64 (n := (y : Int)) (by omega) (by omega), w64 (n := -M) (by omega) (by omega), w64 (by omega) (by omega), j2_f k _ _ (by omega) (by omega) (by omega) he he']
  · rw [w64 (n := (y : Int)) (by omega) (by omega), w64 (n := -M) (by omega) (by omega), w64 (by omega) (by omega), ← Int.sub_eq_add_neg, j2_f k _ _ (by omega) (by omega) (by omega) he he']

/-- The sum of two numbers, neither 0, the first one's place not the lesser. -/
theorem sum_f (k a b : Nat) (ha : rg a < 2139095040) (hb : rg b < 2139095040) (za : rg a ≠ 0) (zb : rg b ≠ 0) (hab : kk b ≤ kk a) (hk : 75 ≤ k) :
    latheref02_sum.f k (sg a) (mg a) (-149 + (kk a : Int)) false false (sg b) (mg b) (-149 + (kk b : Int)) false false = some ((fadd a b : Nat) : Int) := by
  have hma := mg_lt a
  have hmb := mg_lt b
  have hka := kk_le ha
  have hma0 : mg a ≠ 0 := by rw [ne_eq, mg_zero]; exact za
  have hmb0 : mg b ≠ 0 := by rw [ne_eq, mg_zero]; exact zb
  unfold latheref02_sum.f
  rw [w64 (n := -149 + (kk a : Int) - _) (by omega) (by omega)]
  by_cases c : kk a - kk b ≤ 36
  · rw [if_pos (by omega), u64 (by omega) (by omega), if_pos (by omega)]
    have hp : 2 ^ (kk a - kk b) ≤ 2 ^ 36 := Nat.pow_le_pow_right (by omega) c
    have hb1 : mg a * 2 ^ (kk a - kk b) < 16777216 * 2 ^ 36 := Nat.mul_lt_mul_of_lt_of_le hma hp (by decide)
    have hs : shl .u64 (mg a : Int) (-149 + (kk a : Int) - (-149 + (kk b : Int))) = ((mg a * 2 ^ (kk a - kk b) : Nat) : Int) := by
      unfold shl
      have e1 : min (-149 + (kk a : Int) - (-149 + (kk b : Int))).toNat IntKind.u64.bits = kk a - kk b := by
        have : IntKind.u64.bits = 64 := rfl
        rw [this]; omega
      rw [e1]
      have e2 : (mg a : Int) * 2 ^ (kk a - kk b) = ((mg a * 2 ^ (kk a - kk b) : Nat) : Int) := by norm_cast
      have hb3 : mg a * 2 ^ (kk a - kk b) < 18446744073709551616 := by omega
      rw [e2, u64 (Int.natCast_nonneg _) (Int.ofNat_lt.2 hb3)]
    rw [hs, w64 (by omega) (by omega)]
    generalize hX : mg a * 2 ^ (kk a - kk b) = X at *
    have hX0 : 0 < X := by rw [← hX]; exact Nat.mul_pos (by omega) (Nat.two_pow_pos _)
    rw [j0_f k X _ _ _ _ _ _ _ (mg b) _ _ _ (by omega) (by omega) (by omega) (by omega) (by omega) (by omega) _ rfl]
    rw [fadd_num ha hb hab _ rfl, hX]
    congr 3
    -- a sum that is 0 has two signs
    generalize hT : (if sg a = true then -(X : Int) else (X : Int)) + (if sg b = true then -((mg b : Nat) : Int) else ((mg b : Nat) : Int)) = T
    by_cases z : T = 0
    · rw [if_pos z]
      have : (sg a && sg b) = false := by
        cases h1 : sg a <;> cases h2 : sg b <;> simp [h1, h2] at hT ⊢
        omega
      rw [this, z]
      rfl
    · rw [if_neg z]
  · rw [if_neg (by omega)]
    have hk23 : 8388608 ≤ mg a := by
      rcases mg_ge a with h | h
      · omega
      · exact h
    have e1 : IntKind.u64.wrap ((mg a : Int) * 68719476736) = ((mg a * 68719476736 : Nat) : Int) := by
      rw [u64 (by omega) (by omega)]; omega
    rw [e1, w64 (by omega) (by omega), w64 (n := -149 + (kk a : Int) - 36) (by omega) (by omega)]
    have := j0_f k ((mg a * 68719476736 : Nat) : Int) (-149 + (kk a : Int) - 36) (sg a) (sg b) (mg a) (-149 + (kk a : Int)) false false 1 (-149 + (kk b : Int)) false false (by omega) (by omega) (by omega) (by omega) (by omega) (by omega) _ rfl
    rw [show ((1 : Nat) : Int) = 1 from rfl] at this
    rw [this, fadd_num ha hb hab _ rfl]
    -- both are nearest to a itself
    have f1 := rg_form a
    have hfa : 2 ^ 23 ≤ mg a := hk23
    have hfa2 : mg a < 2 ^ (23 + 1) := hma
    obtain ⟨d, hd⟩ : ∃ d, kk a = d + 36 := ⟨kk a - 36, by omega⟩
    have hp : 2 ^ kk a = 2 ^ d * 68719476736 := by rw [hd, Nat.pow_add]
    have hp0 := Nat.two_pow_pos d
    have sgn (X Y : Nat) (hXY : Y < X) : decide ((if sg a = true then -(X : Int) else (X : Int)) + (if sg b = true then -(Y : Int) else (Y : Int)) < 0) = sg a := by
      cases sg a <;> cases sg b <;> simp <;> omega
    have abs (X Y : Nat) (hXY : Y < X) : ((if sg a = true then -(X : Int) else (X : Int)) + (if sg b = true then -(Y : Int) else (Y : Int))).natAbs = if sg a = sg b then X + Y else X - Y := by
      cases sg a <;> cases sg b <;> simp <;> omega
    have nz (X Y : Nat) (hXY : Y < X) : ¬ ((if sg a = true then -(X : Int) else (X : Int)) + (if sg b = true then -(Y : Int) else (Y : Int)) = 0) := by
      cases sg a <;> cases sg b <;> simp <;> omega
    -- the lesser one's share
    have hlow : mg b * 2 ^ kk b < 2 ^ d * 16777216 := by
      have h1 : 2 ^ kk b ≤ 2 ^ d := Nat.pow_le_pow_right (by omega) (by omega)
      have h2 : mg b * 2 ^ kk b ≤ mg b * 2 ^ d := Nat.mul_le_mul_left _ h1
      have h3 : mg b * 2 ^ d < 16777216 * 2 ^ d := Nat.mul_lt_mul_of_pos_right hmb hp0
      omega
    have hA : mg b < mg a * 2 ^ (kk a - kk b) := by
      have h1 : 2 ^ 36 ≤ 2 ^ (kk a - kk b) := Nat.pow_le_pow_right (by omega) (by omega)
      have h2 := Nat.mul_le_mul hk23 h1
      omega
    have hsplit : mg a * 2 ^ (kk a - kk b) * 2 ^ kk b = mg a * 2 ^ kk a := by
      rw [Nat.mul_assoc, ← Nat.pow_add]; congr 2; omega
    have s1 := sgn (mg a * 68719476736) 1 (by omega)
    have a1 := abs (mg a * 68719476736) 1 (by omega)
    rw [show ((1 : Nat) : Int) = 1 from rfl] at s1 a1
    rw [if_neg (nz _ _ hA), sgn _ _ hA, s1, abs _ _ hA, a1]
    refine congrArg (fun x : Nat => some (x : Int)) ?_
    rw [write_near (R := rg a), write_near (R := rg a)]
    · -- the sum itself
      rw [show (-149 - (-149 + (kk b : Int))).toNat = 0 by omega, Nat.pow_zero, show (-149 + (kk b : Int) + 149).toNat = kk b by omega]
      have hs2 : (mg a * 2 ^ (kk a - kk b) - mg b) * 2 ^ kk b = mg a * 2 ^ kk a - mg b * 2 ^ kk b := by rw [Nat.sub_mul, hsplit]
      have hs3 : (mg a * 2 ^ (kk a - kk b) + mg b) * 2 ^ kk b = mg a * 2 ^ kk a + mg b * 2 ^ kk b := by rw [Nat.add_mul, hsplit]
      have hge : 8388608 * 2 ^ kk a ≤ mg a * 2 ^ kk a := Nat.mul_le_mul_right _ hk23
      have hb0 : 0 < mg b * 2 ^ kk b := Nat.mul_pos (by omega) (Nat.two_pow_pos _)
      rw [f1]
      refine near_close (δ := 2 ^ d * 16777216) hfa hfa2 (by omega) ?_ ?_
      · split
        · rw [hs3]; omega
        · rw [hs2]; omega
      · split
        · rw [hs3]; omega
        · rw [hs2]; omega
    · rw [show (-149 - (-149 + (kk a : Int) - 36)).toNat = 0 by omega, Nat.pow_zero, show (-149 + (kk a : Int) - 36 + 149).toNat = d by omega]
      have hge : 8388608 * 2 ^ kk a ≤ mg a * 2 ^ kk a := Nat.mul_le_mul_right _ hk23
      have hm : mg a * 68719476736 * 2 ^ d = mg a * 2 ^ kk a := by rw [hp]; grind
      have hs2 : (mg a * 68719476736 - 1) * 2 ^ d = mg a * 2 ^ kk a - 2 ^ d := by rw [Nat.sub_mul, hm, Nat.one_mul]
      have hs3 : (mg a * 68719476736 + 1) * 2 ^ d = mg a * 2 ^ kk a + 2 ^ d := by rw [Nat.add_mul, hm, Nat.one_mul]
      rw [f1]
      refine near_close (δ := 2 ^ d * 2) hfa hfa2 (by omega) ?_ ?_
      · split
        · rw [hs3]; omega
        · rw [hs2]; omega
      · split
        · rw [hs3]; omega
        · rw [hs2]; omega
end Go.Proofs.YtmfladkimmnccaaDoor.Rlb
