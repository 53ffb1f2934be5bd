/- The reference's sum, difference, sign, whole numbers are the model's. No condition. -/
import Derived.Test.YtmfladkimmnccaaDoorRlb
import Derived.Test.YtmfladkimmnccaaDoorPVx11
import Derived.Test.YtmfladkimmnccaaDoorPVx13
import Derived.Test.YtmfladkimmnccaaDoorPVx14
import Derived.Test.YtmfladkimmnccaaDoorPVx17
import Derived.Test.YtmfladkimmnccaaDoorPVx5
import Derived.Test.YtmfladkimmnccaaDoorPVx8
namespace Go.Proofs.YtmfladkimmnccaaDoor.Rlc
open Go.RowKit Lathe Go.Proofs.YtmfladkimmnccaaDoor.PW Go.Proofs.YtmfladkimmnccaaDoor.Ref Go.Proofs.YtmfladkimmnccaaDoor.Rla Go.Proofs.YtmfladkimmnccaaDoor.Rlb Go.Proofs.YtmfladkimmnccaaDoorW.PrintWords Go.Proofs.YtmfladkimmnccaaDoorW.PrintMore

theorem fadd_comm (a b : Nat) : fadd a b = fadd b a := by
  unfold fadd Ieee.Format.add
  congr 2
  cases Ieee.single.read a with
  | nan s t => cases Ieee.single.read b <;> rfl
  | infinity s =>
    cases Ieee.single.read b with
    | nan => rfl
    | infinity t => cases s <;> cases t <;> rfl
    | number => rfl
  | number s m i =>
    cases Ieee.single.read b with
    | nan => rfl
    | infinity => rfl
    | number t n j =>
      simp only [Ieee.Datum.sum]
      rw [Int.min_comm j i, Int.add_comm (Ieee.signed t n _), Bool.and_comm t s]

/-- A nought and a number. -/
theorem fadd_zero_left {a b : Nat} (za : rg a = 0) (hb : rg b < 2139095040) (zb : rg b ≠ 0) : fadd a b = Ieee.single.write (.number (sg b) (mg b) (-149 + (kk b : Int))) := by
  have hka : kk a = 0 := by unfold kk; omega
  rw [fadd_comm]
  rw [fadd_num hb (by omega) (by omega) _ rfl, hka, mg_zero.2 za]
  have hmb : mg b ≠ 0 := by rw [ne_eq, mg_zero]; exact zb
  obtain ⟨R, h1, h2⟩ := write_number (sg b) (mg b) (-149 + (kk b : Int))
  rw [h2]
  rw [show (-149 + (kk b : Int) + 149).toNat = kk b by omega, show (-149 - (-149 + (kk b : Int))).toNat = 0 by omega, Nat.pow_zero] at h1
  have hX : 0 < mg b * 2 ^ (kk b - 0) := Nat.mul_pos (by omega) (Nat.two_pow_pos _)
  have e : kk b - 0 = kk b := by omega
  rw [e] at hX ⊢
  refine (write_near (R := R) ?_).trans ?_
  · rw [show (-149 - (-149 + ((0 : Nat) : Int))).toNat = 0 by omega, show (-149 + ((0 : Nat) : Int) + 149).toNat = 0 by omega, Nat.pow_zero, Nat.mul_one]
    have : ((if sg b = true then -((mg b * 2 ^ kk b : Nat) : Int) else ((mg b * 2 ^ kk b : Nat) : Int)) + if sg a = true then -((0 : Nat) : Int) else ((0 : Nat) : Int)).natAbs = mg b * 2 ^ kk b := by
      generalize mg b * 2 ^ kk b = X at *
      cases sg b <;> cases sg a <;> simp
    rw [this]
    exact near_iff.2 h1
  · generalize mg b * 2 ^ kk b = X at *
    congr 1
    cases sg b <;> cases sg a <;> simp <;> omega
theorem fadd_zero_zero {a b : Nat} (za : rg a = 0) (zb : rg b = 0) : fadd a b = pk (sg a && sg b) 0 := by
  have hka : kk a = 0 := by unfold kk; omega
  have hkb : kk b = 0 := by unfold kk; omega
  rw [fadd_num (by omega) (by omega) (by omega) _ rfl, hka, hkb, mg_zero.2 za, mg_zero.2 zb]
  cases sg a <;> cases sg b <;> decide

theorem Add_f (k a b : Nat) (ha : a < 4294967296) (hb : b < 4294967296) (hk : 90 ≤ k) : latheref02_Add.f k a b = some ((fadd a b : Nat) : Int) := by
  obtain ⟨k, rfl⟩ : ∃ m, k = m + 2 := ⟨k - 2, by omega⟩
  unfold latheref02_Add.f
  rcases Nat.lt_trichotomy (rg a) 2139095040 with c | c | c
  · rw [Of_fin ha c]
    rcases Nat.lt_trichotomy (rg b) 2139095040 with d | d | d
    · rw [Of_fin hb d]
      simp only [Option.bind_some, latheref02_nan.f, Bool.false_eq_true, if_false, latheref02_Add.j0]
      have h1 := kk_le c
      have h2 := kk_le d
      have hma := mg_lt a
      have hmb := mg_lt b
      by_cases za : rg a = 0
      · have zm := mg_zero.2 za
        rw [if_pos (by omega)]
        by_cases zb : rg b = 0
        · have zn := mg_zero.2 zb
          have : ((mg b : Int) == 0) = true := by simp [zn]
          rw [this]
          simp only [latheref02_Add.j1, if_true]
          rw [fadd_zero_zero za zb]
          cases h : sg a
          · simp only [Bool.false_eq_true, if_false]
            rw [zero_f]; rfl
          · simp only [if_true]
            rw [zero_f]; rfl
        · have zn : mg b ≠ 0 := by rw [ne_eq, mg_zero]; exact zb
          have : ((mg b : Int) == 0) = false := by simp; omega
          rw [this]
          simp only [latheref02_Add.j1, Bool.false_eq_true, if_false]
          rw [if_pos (by omega), Round_f k _ _ _ (by omega) (by omega) (by omega) (by omega), fadd_zero_left za d zb]
          rfl
      · have zm : mg a ≠ 0 := by rw [ne_eq, mg_zero]; exact za
        rw [if_neg (by omega)]
        simp only [latheref02_Add.j1, Bool.false_eq_true, if_false]
        rw [if_neg (by omega)]
        by_cases zb : rg b = 0
        · have zn := mg_zero.2 zb
          rw [if_pos (by omega), Round_f k _ _ _ (by omega) (by omega) (by omega) (by omega), fadd_comm, fadd_zero_left zb c za]
          rfl
        · have zn : mg b ≠ 0 := by rw [ne_eq, mg_zero]; exact zb
          rw [if_neg (by omega)]
          by_cases e : kk a < kk b
          · rw [if_pos (by omega), sum_f k b a d c zb za (by omega) (by omega), fadd_comm]
            rfl
          · rw [if_neg (by omega), sum_f k a b c d za zb (by omega) (by omega)]
            rfl
    · rw [Of_inf hb d]
      simp only [Option.bind_some, latheref02_nan.f, Bool.false_eq_true, if_false, if_true, latheref02_Add.j0]
      rw [fadd_fin_inf c d, infinite_f]
      rfl
    · rw [Of_nan hb d, fadd_nan (.inr d)]
      simp only [Option.bind_some, latheref02_nan.f, Bool.false_eq_true, if_false, if_true, latheref02_Add.j0]
      rfl
  · rw [Of_inf ha c]
    rcases Nat.lt_trichotomy (rg b) 2139095040 with d | d | d
    · rw [Of_fin hb d]
      simp only [Option.bind_some, latheref02_nan.f, Bool.false_eq_true, if_false, if_true, latheref02_Add.j0]
      rw [fadd_inf_fin c d, infinite_f]
      rfl
    · rw [Of_inf hb d, fadd_inf_inf c d]
      simp only [Option.bind_some, latheref02_nan.f, Bool.false_eq_true, if_false, if_true, latheref02_Add.j0]
      by_cases e : sg a = sg b
      · rw [if_pos e, e]
        simp only [bne_self_eq_false, Bool.false_eq_true, if_false]
        rw [infinite_f]
        rfl
      · rw [if_neg e]
        have : (sg a != sg b) = true := by simp [e]
        rw [this]
        rfl
    · rw [Of_nan hb d, fadd_nan (.inr d)]
      simp only [Option.bind_some, latheref02_nan.f, Bool.false_eq_true, if_false, if_true, latheref02_Add.j0]
      rfl
  · rw [Of_nan ha c, fadd_nan (.inl c)]
    rw [Of_f b hb]
    simp only [Option.bind_some, latheref02_nan.f, if_true, latheref02_Add.j0]
    rfl

theorem xor_i64 (a : Nat) (h : a < 4294967296) : Go.bits .xor .i64 (a : Int) 2147483648 = ((flip a : Nat) : Int) := by
  have hl := flip_lt' h
  unfold Go.bits Lathe.flip at *
  have e : (2147483648 : Int) = ((2147483648 : Nat) : Int) := rfl
  rw [e, BitVec.ofInt_natCast, BitVec.ofInt_natCast]
  simp only [BitVec.toNat_xor, BitVec.toNat_ofNat]
  have e1 : a % 2 ^ IntKind.i64.bits = a := Nat.mod_eq_of_lt (by show a < 2 ^ 64; omega)
  have e2 : 2147483648 % 2 ^ IntKind.i64.bits = 2147483648 := by decide
  rw [e1, e2, IntKind.wrap_i64]
  omega

theorem Neg_f (a : Nat) (ha : a < 4294967296) : latheref02_Neg.f a = some ((fneg a : Nat) : Int) := by
  unfold latheref02_Neg.f
  rcases Nat.lt_trichotomy (rg a) 2139095040 with c | c | c
  · rw [Of_fin ha c, fneg_num ha (by omega)]
    simp only [Option.bind_some, Bool.false_eq_true, if_false]
    rw [xor_i64 a ha]
  · rw [Of_inf ha c, fneg_num ha (by omega)]
    simp only [Option.bind_some, Bool.false_eq_true, if_false]
    rw [xor_i64 a ha]
  · rw [Of_nan ha c, fneg_nan ha c]
    rfl
theorem tl_lt {a : Nat} (h : a < 4294967296) : tl a < 4294967296 := by
  unfold tl
  split <;> omega
theorem fneg_lt {a : Nat} (h : a < 4294967296) : fneg a < 4294967296 := tl_lt (flip_lt' h)
theorem fsub_neg {a b : Nat} (h : b < 4294967296) : fsub a b = fadd a (fneg b) := by
  rw [fsub_flip h]
  rcases Nat.lt_or_ge 2139095040 (rg b) with c | c
  · rw [fneg_nan h c, fadd_nan (.inr (by rw [rg_flip h]; exact c)), fadd_nan (.inr (by decide))]
  · rw [fneg_num h c]
theorem Sub_f (k a b : Nat) (ha : a < 4294967296) (hb : b < 4294967296) (hk : 90 ≤ k) : latheref02_Sub.f k a b = some ((fsub a b : Nat) : Int) := by
  unfold latheref02_Sub.f
  rw [Neg_f b hb]
  simp only [Option.bind_some]
  rw [Add_f k a _ ha (fneg_lt hb) hk, fsub_neg hb]
  rfl
theorem fint_num (n : Int) : tl (fint n) = fint n := tl_num (rg_write _ rfl)
theorem FromInt_f (k : Nat) (n : Int) (h0 : -9223372036854775808 ≤ n) (h1 : n ≤ 9223372036854775807) (hk : 80 ≤ k) : latheref02_FromInt.f k n = some ((fint n : Nat) : Int) := by
  unfold latheref02_FromInt.f
  by_cases c : n < 0
  · rw [if_pos c, w64 (n := n + 1) (by omega) (by omega), w64 (n := -(n + 1)) (by omega) (by omega), u64 (n := -(n + 1)) (by omega) (by omega), u64 (by omega) (by omega)]
    have e1 : -(n + 1) + 1 = ((n.natAbs : Nat) : Int) := by omega
    rw [e1, Round_f k _ _ _ (by omega) (by omega) (by omega) (by omega)]
    unfold fint
    have : decide (n < 0) = true := decide_eq_true c
    rw [this]
    rfl
  · rw [if_neg c, u64 (by omega) (by omega)]
    unfold fint
    have : decide (n < 0) = false := decide_eq_false c
    rw [this]
    have e1 : n = ((n.natAbs : Nat) : Int) := by omega
    generalize n.natAbs = t at *
    subst e1
    rw [Round_f k _ _ _ (by omega) (by omega) (by omega) (by omega)]
    rfl
theorem Canon_f (a : Nat) (ha : a < 4294967296) : latheref02_Canon.f a = some ((tl a : Nat) : Int) := by
  unfold latheref02_Canon.f
  rcases Nat.lt_trichotomy (rg a) 2139095040 with c | c | c
  · rw [Of_fin ha c, tl_num (by omega)]; rfl
  · rw [Of_inf ha c, tl_num (by omega)]; rfl
  · rw [Of_nan ha c, tl_nan c]; rfl
end Go.Proofs.YtmfladkimmnccaaDoor.Rlc
