/- The reference's quotient and root are the model's. No condition. -/
import Derived.Test.YtmfladkimmnccaaDoorRlc
import Derived.Test.YtmfladkimmnccaaDoorPVx16
import Derived.Test.YtmfladkimmnccaaDoorPVx18
import Derived.Test.YtmfladkimmnccaaDoorPow
import Derived.Test.YtmfladkimmnccaaDoorPVx13
import Derived.Test.YtmfladkimmnccaaDoorPVx14
import Derived.Test.YtmfladkimmnccaaDoorPVx17
namespace Go.Proofs.YtmfladkimmnccaaDoor.Rld
open Go.RowKit Lathe Go.Proofs.YtmfladkimmnccaaDoor.PW Go.Proofs.YtmfladkimmnccaaDoor.Ref Go.Proofs.YtmfladkimmnccaaDoor.Rla Go.Proofs.YtmfladkimmnccaaDoor.Rlb Go.Proofs.YtmfladkimmnccaaDoor.Rlc Go.Proofs.YtmfladkimmnccaaDoorW.PrintWords Go.Proofs.YtmfladkimmnccaaDoorW.PrintMore

/-- Digits are shifted up to 24. -/
theorem up_24 (m : Nat) (s : Bool) (e : Int) (b c : Bool) (h0 : m ≠ 0) (h1 : m < 16777216) (he : -100000 ≤ e) (he' : e ≤ 100000) :
    ∃ t : Nat, t ≤ 24 ∧ latheref02_up.f s m e b c = some (s, ((m * 2 ^ t : Nat) : Int), e - t, b, c) ∧ 8388608 ≤ m * 2 ^ t ∧ m * 2 ^ t < 16777216 := by
  obtain ⟨d1, d2⟩ := Go.Proofs.YtmfladkimmnccaaDoor.Reg.up_digits m h0 h1
  refine ⟨23 - m.log2, by omega, ?_, d1, d2⟩
  unfold latheref02_up.f
  rw [if_pos (by omega), Int.toNat_natCast]
  have e1 := Go.Proofs.YtmfladkimmnccaaDoor.Reg.mul_pow_cast m (23 - m.log2)
  rw [e1]

theorem Div_num (k a b : Nat) (s : Bool) (c : rg a < 2139095040) (d : rg b < 2139095040) (za : rg a ≠ 0) (zb : rg b ≠ 0) (hs : s = (sg a ^^ sg b)) (hk : 75 ≤ k) :
    latheref02_Div.j1 (k + 1) s false (sg a) (mg a) (-149 + (kk a : Int)) false false (sg b) (mg b) (-149 + (kk b : Int)) false false = some ((fdiv a b : Nat) : Int) := by
  have hma := mg_lt a
  have hmb := mg_lt b
  have h1 := kk_le c
  have h2 := kk_le d
  have zm : mg a ≠ 0 := by rw [ne_eq, mg_zero]; exact za
  have zn : mg b ≠ 0 := by rw [ne_eq, mg_zero]; exact zb
  obtain ⟨t, t1, t2, t3, t4⟩ := up_24 (mg a) (sg a) (-149 + (kk a : Int)) false false zm hma (by omega) (by omega)
  obtain ⟨u, u1, u2, u3, u4⟩ := up_24 (mg b) (sg b) (-149 + (kk b : Int)) false false zn hmb (by omega) (by omega)
  rw [latheref02_Div.j1]
  simp only [Bool.false_eq_true, if_false]
  rw [if_neg (by omega), t2, u2]
  simp only [Option.bind_some]
  -- the quotient is what lies nearest
  obtain ⟨X, hX⟩ : ∃ X, X = mg a * 2 ^ t := ⟨_, rfl⟩
  obtain ⟨Y, hY⟩ : ∃ Y, Y = mg b * 2 ^ u := ⟨_, rfl⟩
  rw [← hX] at t3 t4 ⊢
  rw [← hY] at u3 u4 ⊢
  have hq : X * 274877906944 / Y < 18446744073709551616 / 4 := by
    have : X * 274877906944 / Y ≤ X * 274877906944 / 1 := Nat.div_le_div_left (by omega) (by omega)
    omega
  have key (y : Nat) (r : Nat) (hr : r = if X * 274877906944 % Y = 0 then 0 else 1) (hy : y = 2 * (X * 274877906944 / Y) + r) :
      Ieee.single.write (.number s y (-149 + (kk a : Int) - t - (-149 + (kk b : Int) - u) - 39)) = fdiv a b := by
    obtain ⟨R, g1, g2⟩ := write_number s y (-149 + (kk a : Int) - t - (-149 + (kk b : Int) - u) - 39)
    obtain ⟨S, f1, f2⟩ := fdiv_fin c d zb
    rw [g2, f2, hs]
    suffices h : NearC 23 R (cq (U 23 (rg a) * 2 ^ 149) (U 23 (rg b))) by
      rw [h.unique f1 (sane_cq _ _ (U_pos (by omega)))]
    have g1 := near_iff.2 g1
    refine near_div (D := X * 274877906944) (n := Y) (a := (149 + (kk a : Int) - t - (kk b : Int) + u - 38).toNat) (b := (-(149 + (kk a : Int) - t - (kk b : Int) + u - 38)).toNat) (s := r) (by omega) (U_pos (by omega)) (by omega) (by omega) ?_ hr ?_
    · rw [U_mg, U_mg, hX, hY]
      generalize hA : (149 + (kk a : Int) - t - (kk b : Int) + u - 38).toNat = A
      generalize hB : (-(149 + (kk a : Int) - t - (kk b : Int) + u - 38)).toNat = B
      have e9 : kk a + 149 + u + B = t + 38 + A + kk b := by omega
      have : 2 ^ (kk a + 149 + u + B) = 2 ^ (t + 38 + A + kk b) := by rw [e9]
      rw [Nat.pow_add, Nat.pow_add, Nat.pow_add, Nat.pow_add, Nat.pow_add, Nat.pow_add, show (2 : Nat) ^ 38 = 274877906944 from rfl] at this
      generalize 2 ^ kk a = x1 at *
      generalize 2 ^ 149 = x2 at *
      generalize 2 ^ u = x3 at *
      generalize 2 ^ B = x4 at *
      generalize 2 ^ t = x5 at *
      generalize 2 ^ A = x6 at *
      generalize 2 ^ kk b = x7 at *
      calc mg a * x1 * x2 * (mg b * x3) * x4 = mg a * mg b * (x1 * x2 * x3 * x4) := by grind
        _ = mg a * mg b * (x5 * 274877906944 * x6 * x7) := by rw [this]
        _ = _ := by grind
    · rw [← hy]
      have := (Near.scale (f := 23) (r := R) (p := y * 2 ^ (-149 + (kk a : Int) - t - (-149 + (kk b : Int) - u) - 39 + 149).toNat) (q := 2 ^ (-149 - (-149 + (kk a : Int) - t - (-149 + (kk b : Int) - u) - 39)).toNat) 2 (by omega)).2 g1
      rcases Int.lt_or_le 0 (149 + (kk a : Int) - t - (kk b : Int) + u - 38) with c | c
      · rw [show (-149 - (-149 + (kk a : Int) - t - (-149 + (kk b : Int) - u) - 39)).toNat = 0 by omega] at this
        rw [show (-(149 + (kk a : Int) - t - (kk b : Int) + u - 38)).toNat = 0 by omega, show (149 + (kk a : Int) - t - (kk b : Int) + u - 38).toNat = (-149 + (kk a : Int) - t - (-149 + (kk b : Int) - u) - 39 + 149).toNat + 1 by omega, Nat.pow_succ, ← Nat.mul_assoc]
        simpa using this
      · rw [show (-149 + (kk a : Int) - t - (-149 + (kk b : Int) - u) - 39 + 149).toNat = 0 by omega] at g1
        rw [show (149 + (kk a : Int) - t - (kk b : Int) + u - 38).toNat = 0 by omega]
        rw [show (-149 - (-149 + (kk a : Int) - t - (-149 + (kk b : Int) - u) - 39)).toNat = (-(149 + (kk a : Int) - t - (kk b : Int) + u - 38)).toNat + 1 by omega, Nat.pow_succ, Nat.mul_comm _ 2] at g1
        exact g1
  have e1 : IntKind.u64.wrap ((X : Int) * 274877906944) = ((X * 274877906944 : Nat) : Int) := by
    rw [u64 (by omega) (by omega)]; omega
  rw [e1, if_neg (by omega)]
  have e2 : Int.tmod ((X * 274877906944 : Nat) : Int) (Y : Int) = ((X * 274877906944 % Y : Nat) : Int) := by
    rw [Int.tmod_eq_emod_of_nonneg (Int.natCast_nonneg _)]; norm_cast
  have e3 : Int.tdiv ((X * 274877906944 : Nat) : Int) (Y : Int) = ((X * 274877906944 / Y : Nat) : Int) := by
    rw [Int.tdiv_eq_ediv_of_nonneg (Int.natCast_nonneg _)]; norm_cast
  rw [e2, e3]
  generalize hQ : X * 274877906944 / Y = Q at *
  generalize hr0 : X * 274877906944 % Y = r0 at *
  rw [u64 (n := (Q : Int)) (by omega) (by omega), u64 (n := (Q : Int) * 2) (by omega) (by omega), w64 (n := -149 + (kk a : Int) - t - _) (by omega) (by omega), w64 (by omega) (by omega)]
  by_cases z : r0 = 0
  · rw [if_neg (by omega)]
    have k1 := key (2 * Q) 0 (by rw [if_pos z]) (by omega)
    rw [show (Q : Int) * 2 = ((2 * Q : Nat) : Int) by omega, Round_f k s _ _ (by omega) (by omega) (by omega) (by omega), k1]
    rfl
  · rw [if_pos (by omega), u64 (by omega) (by omega)]
    have k1 := key (2 * Q + 1) 1 (by rw [if_neg z]) (by omega)
    rw [show (Q : Int) * 2 + 1 = ((2 * Q + 1 : Nat) : Int) by omega, Round_f k s _ _ (by omega) (by omega) (by omega) (by omega), k1]
    rfl

theorem fdiv_zero_num {a b : Nat} (z : rg a = 0) (d : rg b < 2139095040) (zb : rg b ≠ 0) : fdiv a b = pk (sg a ^^ sg b) 0 := by
  obtain ⟨R, h1, h2⟩ := fdiv_fin (a := a) (b := b) (by omega) d zb
  rw [h2]
  have h1 := near_iff.2 h1
  rw [z, U_zero, Nat.zero_mul] at h1
  have h0 : Near 23 0 0 (U 23 (rg b)) := by
    refine ⟨.inl rfl, .inl ?_⟩
    have : 0 < hi 23 0 := by unfold hi; have := U_lt_succ 23 0; omega
    have := Nat.mul_pos this (U_pos (f := 23) (r := rg b) (by omega))
    omega
  have hp := U_pos (f := 23) (r := rg b) (by omega)
  rw [h1.unique h0 hp hp rfl]
  rfl

theorem Div_f (k a b : Nat) (ha : a < 4294967296) (hb : b < 4294967296) (hk : 90 ≤ k) : latheref02_Div.f k a b = some ((fdiv a b : Nat) : Int) := by
  obtain ⟨k, rfl⟩ : ∃ m, k = m + 2 := ⟨k - 2, by omega⟩
  have hxor : (sg a != sg b) = (sg a ^^ sg b) := by cases sg a <;> cases sg b <;> rfl
  unfold latheref02_Div.f
  rcases Nat.lt_trichotomy (rg a) 2139095040 with c | c | c
  · rw [Of_fin ha c]
    rcases Nat.lt_trichotomy (rg b) 2139095040 with d | d | d
    · rw [Of_fin hb d]
      simp only [Option.bind_some, latheref02_nan.f, Bool.false_eq_true, if_false, latheref02_Div.j0]
      by_cases za : rg a = 0
      · rw [mg_zero.2 za]
        by_cases zb : rg b = 0
        · rw [fdiv_zero c zb, if_pos za, mg_zero.2 zb]
          rfl
        · have zn : mg b ≠ 0 := by rw [ne_eq, mg_zero]; exact zb
          have : ((mg b : Int) == 0) = false := by simp; omega
          rw [this]
          rw [fdiv_zero_num za d zb]
          have e0 : (((0 : Nat) : Int) = 0) := rfl
          rw [if_pos e0]
          simp only [Bool.false_eq_true, if_false, latheref02_Div.j1]
          rw [if_pos e0, zero_f, hxor]
          rfl
      · have zm : mg a ≠ 0 := by rw [ne_eq, mg_zero]; exact za
        rw [if_neg (by omega)]
        by_cases zb : rg b = 0
        · rw [fdiv_zero c zb, if_neg za, mg_zero.2 zb]
          have e0 : (((0 : Nat) : Int) == 0) = true := rfl
          rw [e0]
          simp only [if_true, latheref02_Div.j1]
          rw [infinite_f, hxor]
          rfl
        · have zn : mg b ≠ 0 := by rw [ne_eq, mg_zero]; exact zb
          have : ((mg b : Int) == 0) = false := by simp; omega
          rw [this]
          exact Div_num k a b _ c d za zb hxor (by omega)
    · rw [Of_inf hb d]
      simp only [Option.bind_some, latheref02_nan.f, Bool.false_eq_true, if_false, if_true, latheref02_Div.j0, latheref02_Div.j1]
      rw [fdiv_fin_inf c d, zero_f, hxor]
      rfl
    · rw [Of_nan hb d, fdiv_nan (.inr d)]
      simp only [Option.bind_some, latheref02_nan.f, Bool.false_eq_true, if_false, if_true, latheref02_Div.j0]
      rfl
  · rw [Of_inf ha c]
    rcases Nat.lt_trichotomy (rg b) 2139095040 with d | d | d
    · rw [Of_fin hb d]
      simp only [Option.bind_some, latheref02_nan.f, Bool.false_eq_true, if_false, if_true, latheref02_Div.j0, latheref02_Div.j1]
      rw [fdiv_inf_fin c d, infinite_f, hxor]
      rfl
    · rw [Of_inf hb d, fdiv_inf_inf c d]
      simp only [Option.bind_some, latheref02_nan.f, Bool.false_eq_true, if_false, if_true, latheref02_Div.j0]
      rfl
    · rw [Of_nan hb d, fdiv_nan (.inr d)]
      simp only [Option.bind_some, latheref02_nan.f, Bool.false_eq_true, if_false, if_true, latheref02_Div.j0]
      rfl
  · rw [Of_nan ha c, fdiv_nan (.inl c)]
    rw [Of_f b hb]
    simp only [Option.bind_some, latheref02_nan.f, if_true, latheref02_Div.j0]
    rfl

/-- The root's digits are tried one by one. -/
theorem root_bits (m : Nat) (hm : m < 4611686018427387904) : ∀ (j r : Nat), j ≤ 32 → r * r ≤ m → m < (r + 2 ^ j) * (r + 2 ^ j) → r + 2 ^ j ≤ 4294967296 → ∀ (k : Nat) (e : Int), j + 80 ≤ k → -10000 ≤ e → e ≤ 10000 → e % 2 = 0 →
    ∃ w : Nat, w * w ≤ m ∧ m < (w + 1) * (w + 1) ∧ latheref02_Sqrt.l0 k m e r (if j = 0 then 0 else 2 ^ (j - 1) : Nat) = some ((Ieee.single.write (.number false (2 * w + (if w * w = m then 0 else 1)) (e / 2 - 1)) : Nat) : Int)
  | 0, r, hj, h1, h2, h3, k, e, hk, he, he', hee => by
    obtain ⟨k, rfl⟩ : ∃ x, k = x + 1 := ⟨k - 1, by omega⟩
    have hr : r < 4294967296 := by
      have : (2 : Nat) ^ 0 = 1 := rfl
      omega
    have hrr : r * r < 18446744073709551616 := by omega
    refine ⟨r, h1, by simpa using h2, ?_⟩
    rw [latheref02_Sqrt.l0, if_pos rfl]
    have e0 : ((0 : Nat) : Int) = 0 := rfl
    rw [e0, if_neg (by omega)]
    have e1 : IntKind.u64.wrap ((r : Int) * r) = ((r * r : Nat) : Int) := by
      have : (r : Int) * r = ((r * r : Nat) : Int) := by norm_cast
      rw [this, u64 (Int.natCast_nonneg _) (Int.ofNat_lt.2 hrr)]
    have e2 : Int.tdiv e 2 = e / 2 := Int.tdiv_eq_ediv_of_dvd (Int.dvd_of_emod_eq_zero hee)
    rw [e1, e2, u64 (n := (r : Int) * 2) (by omega) (by omega), w64 (n := e / 2) (by omega) (by omega), w64 (by omega) (by omega)]
    by_cases c : r * r = m
    · rw [if_neg (by omega), if_pos c, show (r : Int) * 2 = ((2 * r + 0 : Nat) : Int) by omega, Round_f k _ _ _ (by omega) (by omega) (by omega) (by omega)]
      rfl
    · rw [if_pos (by omega), if_neg c, u64 (by omega) (by omega), show (r : Int) * 2 + 1 = ((2 * r + 1 : Nat) : Int) by omega, Round_f k _ _ _ (by omega) (by omega) (by omega) (by omega)]
      rfl
  | j + 1, r, hj, h1, h2, h3, k, e, hk, he, he', hee => by
    obtain ⟨k, rfl⟩ : ∃ x, k = x + 1 := ⟨k - 1, by omega⟩
    have hp : 2 ^ (j + 1) = 2 * 2 ^ j := by rw [Nat.pow_succ]; omega
    have hp0 := Nat.two_pow_pos j
    have hn : ∀ n : Int, 0 ≤ n → Int.tdiv n 2 = n / 2 := fun n h => Int.tdiv_eq_ediv_of_nonneg h
    have e4 : (if j + 1 = 0 then 0 else 2 ^ (j + 1 - 1) : Nat) = 2 ^ j := by rw [if_neg (by omega)]; rfl
    rw [e4, latheref02_Sqrt.l0, if_pos (by omega)]
    have hb : (r + 2 ^ j) * (r + 2 ^ j) < 18446744073709551616 := by
      have h4 : r + 2 ^ j < 4294967296 := by omega
      have := Nat.mul_lt_mul'' h4 h4
      omega
    have e1 : IntKind.u64.wrap ((r : Int) + ((2 ^ j : Nat) : Int)) = ((r + 2 ^ j : Nat) : Int) := by
      rw [u64 (by omega) (by omega)]; omega
    have e2 : IntKind.u64.wrap (((r + 2 ^ j : Nat) : Int) * ((r + 2 ^ j : Nat) : Int)) = (((r + 2 ^ j) * (r + 2 ^ j) : Nat) : Int) := by
      have : ((r + 2 ^ j : Nat) : Int) * ((r + 2 ^ j : Nat) : Int) = (((r + 2 ^ j) * (r + 2 ^ j) : Nat) : Int) := (Int.natCast_mul ..).symm
      rw [this, u64 (Int.natCast_nonneg _) (Int.ofNat_lt.2 hb)]
    have e3 : IntKind.u64.wrap (Int.tdiv ((2 ^ j : Nat) : Int) 2) = ((if j = 0 then 0 else 2 ^ (j - 1) : Nat) : Int) := by
      rw [hn _ (Int.natCast_nonneg _), u64 (by omega) (by omega)]
      cases j with
      | zero => rfl
      | succ j =>
        rw [if_neg (by omega), show j + 1 - 1 = j by omega, Nat.pow_succ]
        omega
    rw [e1, e2, e3]
    by_cases c : (r + 2 ^ j) * (r + 2 ^ j) ≤ m
    · rw [if_pos (by omega)]
      exact root_bits m hm j (r + 2 ^ j) (by omega) c (by rw [show r + 2 ^ j + 2 ^ j = r + 2 ^ (j + 1) by omega]; exact h2) (by omega) k e (by omega) he he' hee
    · rw [if_neg (by omega)]
      exact root_bits m hm j r (by omega) h1 (by omega) (by omega) k e (by omega) he he' hee

theorem fsqrt_res (a : Nat) (o : Option Nat) (h : Ieee.single.sqrt a = o) : fsqrt a = res o := by unfold fsqrt; rw [h]

theorem Sqrt_f (k a : Nat) (ha : a < 4294967296) (hk : 200 ≤ k) : latheref02_Sqrt.f k a = some ((fsqrt a : Nat) : Int) := by
  obtain ⟨k, rfl⟩ : ∃ m, k = m + 2 := ⟨k - 2, by omega⟩
  have hpk := pk_of ha
  unfold latheref02_Sqrt.f
  rcases Nat.lt_trichotomy (rg a) 2139095040 with c | c | c
  · rw [Of_fin ha c]
    simp only [Option.bind_some, Bool.false_eq_true, if_false, latheref02_Sqrt.j0]
    by_cases z : rg a = 0
    · have : ((mg a : Int) == 0) = true := by simp [mg_zero.2 z]
      rw [this, fsqrt_res a _ (fsqrt_zero z)]
      simp only [if_true]
      rw [z] at hpk
      rw [hpk]
      rfl
    · have zm : mg a ≠ 0 := by rw [ne_eq, mg_zero]; exact z
      have : ((mg a : Int) == 0) = false := by simp; omega
      rw [this]
      simp only [Bool.false_eq_true, if_false]
      cases hs : sg a with
      | true =>
        rw [fsqrt_res a _ (fsqrt_neg c z hs)]
        rfl
      | false =>
        simp only [Bool.false_eq_true, if_false]
        have hma := mg_lt a
        have h1 := kk_le c
        obtain ⟨t, t1, t2, t3, t4⟩ := up_24 (mg a) false (-149 + (kk a : Int)) false false zm hma (by omega) (by omega)
        rw [t2]
        simp only [Option.bind_some]
        obtain ⟨X, hX⟩ : ∃ X, X = mg a * 2 ^ t := ⟨_, rfl⟩
        rw [← hX] at t3 t4 ⊢
        have e1 : IntKind.u64.wrap ((X : Int) * 68719476736) = ((X * 68719476736 : Nat) : Int) := by
          rw [u64 (by omega) (by omega)]; omega
        rw [e1, w64 (n := -149 + (kk a : Int) - t - 36) (by omega) (by omega)]
        -- what the root is rounded to
        have key (n : Nat) (e : Int) (hn : n = X * 68719476736 ∧ e = -149 + (kk a : Int) - t - 36 ∨ n = X * 137438953472 ∧ e = -149 + (kk a : Int) - t - 37) (he : e % 2 = 0) (w : Nat) (w1 : w * w ≤ n) (w2 : n < (w + 1) * (w + 1)) :
            Ieee.single.write (.number false (2 * w + (if w * w = n then 0 else 1)) (e / 2 - 1)) = fsqrt a := by
          obtain ⟨R, g1, g2⟩ := write_number false (2 * w + (if w * w = n then 0 else 1)) (e / 2 - 1)
          obtain ⟨S, f1, f2⟩ := fsqrt_fin c z hs
          rw [g2, f2]
          suffices h : NearC 23 R (cs (U 23 (rg a) * 2 ^ 149)) by rw [h.unique f1 (sane_cs _)]
          have g1 := near_iff.2 g1
          rw [show (-149 - (e / 2 - 1)).toNat = 0 by omega, Nat.pow_zero] at g1
          refine near_root (a := (e / 2 + 149).toNat) (s := if w * w = n then 0 else 1) w1 w2 (by omega) ?_ rfl ?_
          · rw [U_mg]
            have ex : ∃ d : Nat, e + d = -149 + (kk a : Int) - t ∧ n = mg a * 2 ^ t * 2 ^ d := by
              rcases hn with ⟨hn, he⟩ | ⟨hn, he⟩
              · exact ⟨36, by omega, by rw [hn, hX]⟩
              · exact ⟨37, by omega, by rw [hn, hX]⟩
            obtain ⟨d, d1, d2⟩ := ex
            have e9 : kk a + 149 = t + d + ((e / 2 + 149).toNat + (e / 2 + 149).toNat) := by omega
            rw [d2, Nat.mul_assoc (mg a), ← Nat.pow_add, e9, ← Nat.pow_add, Nat.mul_assoc (mg a), Nat.mul_assoc (mg a), ← Nat.pow_add, ← Nat.pow_add]
          · have := (Near.scale (f := 23) (r := R) (p := (2 * w + (if w * w = n then 0 else 1)) * 2 ^ (e / 2 - 1 + 149).toNat) (q := 1) 2 (by omega)).2 g1
            rw [show (e / 2 + 149).toNat = (e / 2 - 1 + 149).toNat + 1 by omega, Nat.pow_succ, ← Nat.mul_assoc]
            simpa using this
        have b32 : (2147483648 : Int) = ((if 32 = 0 then 0 else 2 ^ (32 - 1) : Nat) : Int) := by decide
        have e0 : (0 : Int) = ((0 : Nat) : Int) := rfl
        by_cases p : Int.tmod (-149 + (kk a : Int) - t - 36) 2 = 0
        · have p2 : (-149 + (kk a : Int) - t - 36) % 2 = 0 := Int.emod_eq_zero_of_dvd (Int.dvd_of_tmod_eq_zero p)
          rw [w64 (by omega) (by omega), if_pos p]
          obtain ⟨k, rfl⟩ : ∃ x, k = x + 1 := ⟨k - 1, by omega⟩
          rw [latheref02_Sqrt.j1]
          obtain ⟨w, w1, w2, w3⟩ := root_bits (X * 68719476736) (by omega) 32 0 (by omega) (by omega) (by omega) (by omega) (k + 1) (-149 + (kk a : Int) - t - 36) (by omega) (by omega) (by omega) p2
          rw [b32, e0, w3, key _ _ (.inl ⟨rfl, rfl⟩) p2 w w1 w2]
        · have p3 : ¬ (-149 + (kk a : Int) - t - 36) % 2 = 0 := fun h => p (Int.tmod_eq_zero_of_dvd (Int.dvd_of_emod_eq_zero h))
          have p2 : (-149 + (kk a : Int) - t - 37) % 2 = 0 := by omega
          have e2 : IntKind.u64.wrap (((X * 68719476736 : Nat) : Int) * 2) = ((X * 137438953472 : Nat) : Int) := by
            rw [u64 (by omega) (by omega)]; omega
          rw [w64 (by omega) (by omega)] <;> try omega
          rw [if_neg p, e2, show -149 + (kk a : Int) - t - 36 - 1 = -149 + (kk a : Int) - t - 37 by omega]
          obtain ⟨k, rfl⟩ : ∃ x, k = x + 1 := ⟨k - 1, by omega⟩
          rw [latheref02_Sqrt.j1]
          obtain ⟨w, w1, w2, w3⟩ := root_bits (X * 137438953472) (by omega) 32 0 (by omega) (by omega) (by omega) (by omega) (k + 1) (-149 + (kk a : Int) - t - 37) (by omega) (by omega) (by omega) p2
          rw [b32, e0, w3, key _ _ (.inr ⟨rfl, rfl⟩) p2 w w1 w2]
  · rw [Of_inf ha c]
    simp only [Option.bind_some, Bool.false_eq_true, if_false, if_true, latheref02_Sqrt.j0]
    rw [fsqrt_res a _ (fsqrt_inf c)]
    cases hs : sg a with
    | true => rfl
    | false =>
      rw [hs, c] at hpk
      rw [← hpk]
      rfl
  · rw [Of_nan ha c, fsqrt_res a _ (fsqrt_nan c)]
    rfl
end Go.Proofs.YtmfladkimmnccaaDoor.Rld
namespace Go.Proofs.YtmfladkimmnccaaDoor.Rlf
open Go.RowKit Lathe Go.Proofs.YtmfladkimmnccaaDoor.PW Go.Proofs.YtmfladkimmnccaaDoor.Ref Go.Proofs.YtmfladkimmnccaaDoor.Rla Go.Proofs.YtmfladkimmnccaaDoor.Rlb Go.Proofs.YtmfladkimmnccaaDoor.Rlc Go.Proofs.YtmfladkimmnccaaDoorW.PrintWords Go.Proofs.YtmfladkimmnccaaDoorW.PrintMore

theorem fmul_lt (a b : Nat) : fmul a b < 4294967296 := by
  unfold fmul Ieee.Format.mul
  cases (Ieee.single.read a).product (Ieee.single.read b) with
  | none => show (2143289344 : Nat) < 4294967296; omega
  | some d => exact Ieee.Format.write_lt Ieee.single d
theorem powL_lt (x n : Nat) : ∀ (j r : Nat), r < 4294967296 → powL x n j r < 4294967296
  | 0, r, h => h
  | j + 1, r, h => by
    rw [powL]
    split
    · exact powL_lt x n j _ (fmul_lt _ _)
    · exact powL_lt x n j _ (fmul_lt _ _)
theorem fpow_lt (x : Nat) (n : Int) (hx : x < 4294967296) : fpow x n < 4294967296 := by
  unfold fpow
  split
  · omega
  · exact powL_lt _ _ _ _ (tl_lt hx)

theorem Power_l0 (x n : Nat) (hx : x < 4294967296) (hn : n ≤ 9223372036854775807) : ∀ (j k r : Nat), j ≤ 63 → r < 4294967296 → j + 90 ≤ k → latheref02_Power.l0 k x n r ((j : Int) - 1) = some ((powL x n j r : Nat) : Int)
  | 0, k, r, hj, hr, hk => by
    obtain ⟨k, rfl⟩ : ∃ m, k = m + 1 := ⟨k - 1, by omega⟩
    rw [latheref02_Power.l0, if_neg (by omega)]
    rfl
  | j + 1, k, r, hj, hr, hk => by
    obtain ⟨k, rfl⟩ : ∃ m, k = m + 1 := ⟨k - 1, by omega⟩
    rw [latheref02_Power.l0, if_pos (by omega), Mul_f k r r hr hr (by omega)]
    simp -implicitDefEqProofs only [Option.bind_some]
    rw [show ((j + 1 : Nat) : Int) - 1 = (j : Int) by omega, u64 (by omega) (by omega), if_pos (by omega)]
    have hs : shr .i64 (n : Int) (j : Int) = (n : Int) / 2 ^ j := by
      unfold shr
      rw [Int.toNat_natCast]
      have : min j IntKind.i64.bits = j := by
        have : IntKind.i64.bits = 64 := rfl
        rw [this]; omega
      rw [this]
    rw [hs, Go.Proofs.YtmfladkimmnccaaDoor.Pow.bit_i64 n j hn, w64 (by omega) (by omega), powL]
    by_cases c : n / 2 ^ j % 2 = 1
    · rw [if_pos (by omega), if_pos c, Mul_f k _ x (fmul_lt r r) hx (by omega)]
      simp -implicitDefEqProofs only [Option.bind_some]
      exact Power_l0 x n hx hn j k _ (by omega) (fmul_lt _ _) (by omega)
    · rw [if_neg (by omega), if_neg c]
      exact Power_l0 x n hx hn j k _ (by omega) (fmul_lt _ _) (by omega)

theorem Power_f (k x : Nat) (n : Int) (hx : x < 4294967296) (hn : n ≤ 9223372036854775807) (hk : 200 ≤ k) : latheref02_Power.f k x n = some ((fpow x n : Nat) : Int) := by
  unfold latheref02_Power.f fpow
  by_cases c : n < 1
  · rw [if_pos c, if_pos c]
    rfl
  · rw [if_neg c, if_neg c]
    obtain ⟨m, rfl⟩ := Int.eq_ofNat_of_zero_le (show 0 ≤ n by omega)
    rw [Canon_f x hx]
    simp -implicitDefEqProofs only [Option.bind_some, Int.toNat_natCast]
    obtain ⟨l1, l2⟩ := bitLen_pos m (by omega) (by omega)
    have hb : blen m = Lib.bitLen m := by
      rw [bitLen_log m (by omega) (by omega)]
      unfold blen
      rw [if_neg (by omega)]
    rw [u64 (by omega) (by omega), length_f k m (by omega) (by omega), hb]
    simp -implicitDefEqProofs only [Option.bind_some]
    rw [w64 (by omega) (by omega)]
    have := Power_l0 x m hx (by omega) (Lib.bitLen m - 1) k (tl x) (by omega) (tl_lt hx) (by omega)
    rw [show ((Lib.bitLen m - 1 : Nat) : Int) - 1 = (Lib.bitLen m : Int) - 2 by omega] at this
    exact this
end Go.Proofs.YtmfladkimmnccaaDoor.Rlf
