/- The reference's orders, picks, sizes, powers are the model's. No condition. -/
import Derived.Test.YtmfladkimmnccaaDoorRlc
import Derived.Laws.BitsAllLaws
import Derived.Test.YtmfladkimmnccaaDoorFpc
import Derived.Test.YtmfladkimmnccaaDoorPVx14
import Derived.Test.YtmfladkimmnccaaDoorPVx5
import Derived.Test.YtmfladkimmnccaaDoorPVx6
namespace Go.Proofs.YtmfladkimmnccaaDoor.Rle
open Go.RowKit Lathe Go.Proofs.YtmfladkimmnccaaDoor.PW Go.Proofs.YtmfladkimmnccaaDoor.Ref Go.Proofs.YtmfladkimmnccaaDoor.Rla Go.Proofs.YtmfladkimmnccaaDoor.Rlb Go.Proofs.YtmfladkimmnccaaDoor.Rlc Go.Proofs.YtmfladkimmnccaaDoorW.PrintWords Go.Proofs.YtmfladkimmnccaaDoorW.PrintMore

theorem and_low (a : Nat) : a &&& 2147483647 = rg a := by
  unfold rg
  exact Nat.and_two_pow_sub_one_eq_mod a 31
theorem andNot_u32 (a : Nat) (h : a < 4294967296) : Go.bits .andNot .u32 (a : Int) 2147483648 = ((rg a : Nat) : Int) := by
  have := u32_andNot_nat a 2147483648 h (by omega)
  rw [show 4294967295 - 2147483648 = 2147483647 from rfl, and_low] at this
  exact this
theorem andNot_i64 (a : Nat) (h : a < 4294967296) : Go.bits .andNot .i64 (a : Int) 2147483648 = ((rg a : Nat) : Int) := by
  have hr := rg_lt a
  have e : (2147483648 : Int) = ((2147483648 : Nat) : Int) := rfl
  unfold Go.bits
  rw [e, BitVec.ofInt_natCast, BitVec.ofInt_natCast]
  have h1 : (BitVec.ofNat IntKind.i64.bits a &&& ~~~BitVec.ofNat IntKind.i64.bits 2147483648).toNat = rg a := by
    rw [BitVec.toNat_and]
    have e1 : (BitVec.ofNat IntKind.i64.bits a).toNat = a := Nat.mod_eq_of_lt (by show a < 2 ^ 64; omega)
    have e2 : (~~~BitVec.ofNat IntKind.i64.bits 2147483648).toNat = 18446744071562067967 := by decide
    rw [e1, e2]
    have e3 : a = a &&& 4294967295 := by
      have := Nat.and_two_pow_sub_one_eq_mod a 32
      rw [show (2 : Nat) ^ 32 - 1 = 4294967295 from rfl, show (2 : Nat) ^ 32 = 4294967296 from rfl] at this
      rw [this]; omega
    have e4 : 4294967295 &&& 18446744071562067967 = 2147483647 := by decide
    conv => lhs; rw [e3]
    rw [Nat.and_assoc, e4, and_low]
  show IntKind.i64.wrap _ = _
  rw [h1, IntKind.wrap_i64]
  omega
theorem key_f (a : Nat) (ha : a < 4294967296) : latheref02_key.f a = some (key a) := by
  unfold latheref02_key.f key sg
  have hr := rg_lt a
  by_cases c : a / 2147483648 = 1
  · have : (a / 2147483648 % 2 == 1) = true := by simp [c]
    rw [if_pos (by omega), this, andNot_i64 a ha, w64 (n := -((rg a : Nat) : Int)) (by omega) (by omega), w64 (by omega) (by omega)]
    rfl
  · have : (a / 2147483648 % 2 == 1) = false := by simp; omega
    rw [if_neg (by omega), this, andNot_i64 a ha]
    rfl
theorem nought_f (a : Nat) (ha : a < 4294967296) : latheref02_nought.f a = some (decide (rg a = 0)) := by
  unfold latheref02_nought.f
  rw [andNot_i64 a ha]
  congr 1
  rw [Bool.eq_iff_iff]
  simp

/-- The two numbers' classes: is one a NaN? -/
theorem nan_f (a b : Nat) : latheref02_nan.f (parts a).1 (parts a).2.1 (parts a).2.2.1 (parts a).2.2.2.1 (parts a).2.2.2.2 (parts b).1 (parts b).2.1 (parts b).2.2.1 (parts b).2.2.2.1 (parts b).2.2.2.2 = some (decide (2139095040 < rg a ∨ 2139095040 < rg b)) := by
  unfold latheref02_nan.f
  have key (c : Nat) : (parts c).2.2.2.2 = decide (2139095040 < rg c) := by
    unfold parts
    split
    · rename_i h
      show false = _
      symm; rw [decide_eq_false_iff_not]; omega
    · rename_i h
      show (rg c != 2139095040) = _
      rw [Bool.eq_iff_iff]; simp; omega
  rw [key, key]
  by_cases h : 2139095040 < rg a
  · simp [h]
  · simp [h]

theorem Min_f (a b : Nat) (ha : a < 4294967296) (hb : b < 4294967296) : latheref02_Min.f a b = some ((fmin a b : Nat) : Int) := by
  unfold latheref02_Min.f
  rw [Of_f a ha, Of_f b hb]
  simp only [Option.bind_some]
  rw [nan_f]
  simp only [Option.bind_some]
  by_cases h : 2139095040 < rg a ∨ 2139095040 < rg b
  · rw [decide_eq_true h, if_pos rfl, fmin_nan h]
    rfl
  · rw [decide_eq_false h]
    simp only [Bool.false_eq_true, if_false]
    rw [key_f a ha, key_f b hb, fmin_num (by omega) (by omega) ha hb]
    simp only [Option.bind_some]
    split <;> rfl
theorem Max_f (a b : Nat) (ha : a < 4294967296) (hb : b < 4294967296) : latheref02_Max.f a b = some ((fmax a b : Nat) : Int) := by
  unfold latheref02_Max.f
  rw [Of_f a ha, Of_f b hb]
  simp only [Option.bind_some]
  rw [nan_f]
  simp only [Option.bind_some]
  by_cases h : 2139095040 < rg a ∨ 2139095040 < rg b
  · rw [decide_eq_true h, if_pos rfl, fmax_nan h]
    rfl
  · rw [decide_eq_false h]
    simp only [Bool.false_eq_true, if_false]
    rw [key_f a ha, key_f b hb, fmax_num (by omega) (by omega) ha hb]
    simp only [Option.bind_some, gt_iff_lt]
    split <;> rfl
theorem Less_j0 (k a b : Nat) (ha : a < 4294967296) (hb : b < 4294967296) (h : ¬ (2139095040 < rg a ∨ 2139095040 < rg b)) (z : Bool) (hz : z = decide (rg a = 0 ∧ rg b = 0)) :
    latheref02_Less.j0 (k + 1) a b z = some (flt a b) := by
  rw [latheref02_Less.j0, flt_num (by omega) (by omega)]
  by_cases c : rg a = 0 ∧ rg b = 0
  · rw [hz, decide_eq_true c, if_pos rfl]
    congr 1
    symm
    rw [decide_eq_false_iff_not, W_lt]
    exact fun h => h.2 c
  · rw [hz, decide_eq_false c]
    simp only [Bool.false_eq_true, if_false]
    rw [key_f a ha, key_f b hb]
    simp only [Option.bind_some]
    congr 1
    rw [decide_eq_decide, W_lt]
    exact ⟨fun h => ⟨h, c⟩, fun h => h.1⟩
theorem Less_f (k a b : Nat) (ha : a < 4294967296) (hb : b < 4294967296) (hk : 1 ≤ k) : latheref02_Less.f k a b = some (flt a b) := by
  obtain ⟨k, rfl⟩ : ∃ m, k = m + 1 := ⟨k - 1, by omega⟩
  unfold latheref02_Less.f
  rw [Of_f a ha, Of_f b hb]
  simp only [Option.bind_some]
  rw [nan_f]
  simp only [Option.bind_some]
  by_cases h : 2139095040 < rg a ∨ 2139095040 < rg b
  · rw [decide_eq_true h, if_pos rfl, flt_nan h, latheref02_Less.j0]
    rfl
  · rw [decide_eq_false h]
    simp only [Bool.false_eq_true, if_false]
    rw [nought_f a ha, nought_f b hb]
    simp only [Option.bind_some]
    by_cases c : rg a = 0
    · rw [decide_eq_true c, if_pos rfl]
      refine Less_j0 k a b ha hb h _ ?_
      simp [c]
    · rw [decide_eq_false c]
      simp only [Bool.false_eq_true, if_false]
      refine Less_j0 k a b ha hb h _ ?_
      simp [c]
theorem Finite_f (a : Nat) (ha : a < 4294967296) : latheref02_Finite.f a = some (decide (rg a < 2139095040)) := by
  unfold latheref02_Finite.f
  rcases Nat.lt_trichotomy (rg a) 2139095040 with c | c | c
  · rw [Of_fin ha c, decide_eq_true c]; rfl
  · rw [Of_inf ha c, decide_eq_false (by omega)]; rfl
  · rw [Of_nan ha c, decide_eq_false (by omega)]; rfl
theorem fmin_lt {a b : Nat} (ha : a < 4294967296) (hb : b < 4294967296) : fmin a b < 4294967296 := by
  by_cases h : 2139095040 < rg a ∨ 2139095040 < rg b
  · rw [fmin_nan h]; omega
  · rw [fmin_num (by omega) (by omega) ha hb]
    split <;> assumption
theorem fmax_lt {a b : Nat} (ha : a < 4294967296) (hb : b < 4294967296) : fmax a b < 4294967296 := by
  by_cases h : 2139095040 < rg a ∨ 2139095040 < rg b
  · rw [fmax_nan h]; omega
  · rw [fmax_num (by omega) (by omega) ha hb]
    split <;> assumption
theorem and_exp (a : Nat) : a &&& 2139095040 = rg a / 8388608 * 8388608 := by
  apply Nat.eq_of_testBit_eq
  intro i
  have e1 : (2139095040 : Nat) = (2 ^ 8 - 1) <<< 23 := by decide
  have e2 : rg a / 8388608 * 8388608 = (a / 2 ^ 23 % 2 ^ 8) <<< 23 := by
    rw [Nat.shiftLeft_eq]
    unfold rg
    have h1 : a / 2 ^ 23 % 2 ^ 8 = a % 2147483648 / 8388608 := by omega
    rw [h1]
  rw [e2, Nat.testBit_and]
  conv => lhs; rw [e1]
  rw [Nat.testBit_shiftLeft, Nat.testBit_shiftLeft, Nat.testBit_two_pow_sub_one, Nat.testBit_mod_two_pow, Nat.testBit_div_two_pow]
  by_cases h : 23 ≤ i
  · rw [show i - 23 + 23 = i by omega]
    simp [h, Bool.and_comm]
  · simp [h]
end Go.Proofs.YtmfladkimmnccaaDoor.Rle
