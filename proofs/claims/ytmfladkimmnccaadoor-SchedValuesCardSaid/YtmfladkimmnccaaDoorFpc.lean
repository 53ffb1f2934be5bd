/- What is no number; orders; powers. No condition. -/
import Derived.Test.YtmfladkimmnccaaDoorFpa
import Derived.Lib.BitFns

namespace Lathe
open Ieee

/-- What lies close to a rung is nearest to it. -/
theorem near_close {f k n p δ : Nat} (h1 : 2 ^ f ≤ n) (h2 : n < 2 ^ (f + 1)) (hd : 4 * δ ≤ 2 ^ k) (h3 : n * 2 ^ k < p + δ) (h4 : p < n * 2 ^ k + δ) : Near f (k * 2 ^ f + n) p 1 := by
  have hF := Nat.two_pow_pos f
  have hk2 : 2 ≤ k := by
    rcases Nat.lt_or_ge k 2 with c | c
    · have : 2 ^ k ≤ 2 ^ 1 := Nat.pow_le_pow_right (by omega) (by omega)
      omega
    · exact c
  have u0 := U_form f k n (by omega) (.inr h1)
  have u1 := U_succ f k n h2 (.inr h1)
  rw [Nat.add_mul, Nat.one_mul] at u1
  have e3 : 2 ^ (f + 1) = 2 * 2 ^ f := by rw [Nat.pow_succ]; omega
  refine ⟨.inr (.inl ?_), .inl ?_⟩
  · unfold lo
    rw [u0]
    by_cases b : n = 2 ^ f
    · subst b
      obtain ⟨j, rfl⟩ : ∃ j, k = j + 1 := ⟨k - 1, by omega⟩
      have v : U f ((j + 1) * 2 ^ f + 2 ^ f - 1) = (2 * 2 ^ f - 1) * 2 ^ j := by
        rw [show (j + 1) * 2 ^ f + 2 ^ f - 1 = j * 2 ^ f + (2 * 2 ^ f - 1) by rw [Nat.add_mul]; omega]
        exact U_form f j _ (by omega) (by omega)
      rw [v]
      obtain ⟨g, hg⟩ : ∃ g, 2 ^ f = g + 1 := ⟨2 ^ f - 1, by omega⟩
      have e5 : 2 ^ (j + 1) = 2 * 2 ^ j := by rw [Nat.pow_succ]; omega
      rw [hg, show 2 * (g + 1) - 1 = 2 * g + 1 by omega, e5]
      rw [hg, e5] at h3
      rw [e5] at hd
      have e6 : (2 * g + 1) * 2 ^ j + 2 ^ j = (g + 1) * (2 * 2 ^ j) := by grind
      omega
    · have v : U f (k * 2 ^ f + n - 1) = (n - 1) * 2 ^ k := by
        rw [show k * 2 ^ f + n - 1 = k * 2 ^ f + (n - 1) by omega]
        exact U_form f k _ (by omega) (by omega)
      rw [v]
      have : (n - 1) * 2 ^ k + 2 ^ k = n * 2 ^ k := by rw [← Nat.succ_mul]; congr 1; omega
      omega
  · unfold hi
    rw [u0, u1]
    omega

theorem fadd_nan {a b : Nat} (h : 2139095040 < rg a ∨ 2139095040 < rg b) : fadd a b = 2143289344 := by
  unfold fadd Format.add
  rcases h with h | h
  · rw [read_nan h]; rfl
  · rw [read_nan h, sum_nanr]; rfl
theorem fmul_nan {a b : Nat} (h : 2139095040 < rg a ∨ 2139095040 < rg b) : fmul a b = 2143289344 := by
  unfold fmul Format.mul
  rcases h with h | h
  · rw [read_nan h]; rfl
  · rw [read_nan h, product_nanr]; rfl
theorem fdiv_nan {a b : Nat} (h : 2139095040 < rg a ∨ 2139095040 < rg b) : fdiv a b = 2143289344 := by
  unfold fdiv Format.div
  rcases h with h | h
  · rw [read_nan h]; rfl
  · rw [read_nan h, quotient_nanr]; rfl

theorem write_inf (s : Bool) : single.write (.infinity s) = pk s 2139095040 := by
  show single.word s single.infRung = _
  rw [word_, inf_rung]
theorem write_zero (s : Bool) (p : Int) : single.write (.number s 0 p) = pk s 0 := by
  show single.nearest s 0 p = _
  simp [Format.nearest, word_]

theorem fadd_inf_inf {a b : Nat} (h : rg a = 2139095040) (h' : rg b = 2139095040) : fadd a b = if sg a = sg b then pk (sg a) 2139095040 else 2143289344 := by
  unfold fadd Format.add
  rw [read_inf h, read_inf h']
  simp only [Datum.sum]
  split
  · rw [← write_inf]; rfl
  · rfl
theorem fadd_inf_fin {a b : Nat} (h : rg a = 2139095040) (h' : rg b < 2139095040) : fadd a b = pk (sg a) 2139095040 := by
  unfold fadd Format.add
  rw [read_inf h, read_fin h', ← write_inf]
  rfl
theorem fadd_fin_inf {a b : Nat} (h : rg a < 2139095040) (h' : rg b = 2139095040) : fadd a b = pk (sg b) 2139095040 := by
  unfold fadd Format.add
  rw [read_fin h, read_inf h', ← write_inf]
  rfl

theorem fmul_inf_inf {a b : Nat} (h : rg a = 2139095040) (h' : rg b = 2139095040) : fmul a b = pk (sg a ^^ sg b) 2139095040 := by
  unfold fmul Format.mul
  rw [read_inf h, read_inf h', ← write_inf]
  rfl
theorem fmul_inf_fin {a b : Nat} (h : rg a = 2139095040) (h' : rg b < 2139095040) : fmul a b = if rg b = 0 then 2143289344 else pk (sg a ^^ sg b) 2139095040 := by
  unfold fmul Format.mul
  rw [read_inf h, read_fin h', ← write_inf]
  simp only [Datum.product, mg_zero]
  split <;> rfl
theorem fmul_fin_inf {a b : Nat} (h : rg a < 2139095040) (h' : rg b = 2139095040) : fmul a b = if rg a = 0 then 2143289344 else pk (sg b ^^ sg a) 2139095040 := by
  unfold fmul Format.mul
  rw [read_fin h, read_inf h', ← write_inf]
  simp only [Datum.product, mg_zero]
  split <;> rfl
theorem fmul_num {a b : Nat} (h : rg a < 2139095040) (h' : rg b < 2139095040) : fmul a b = single.write (.number (sg a ^^ sg b) (mg a * mg b) (-149 + (kk a : Int) + (-149 + (kk b : Int)))) := by
  unfold fmul Format.mul
  rw [read_fin h, read_fin h']
  rfl

theorem fdiv_inf_inf {a b : Nat} (h : rg a = 2139095040) (h' : rg b = 2139095040) : fdiv a b = 2143289344 := by
  unfold fdiv Format.div
  rw [read_inf h, read_inf h']
  rfl
theorem fdiv_inf_fin {a b : Nat} (h : rg a = 2139095040) (h' : rg b < 2139095040) : fdiv a b = pk (sg a ^^ sg b) 2139095040 := by
  unfold fdiv Format.div
  rw [read_inf h, read_fin h', ← write_inf]
  rfl
theorem fdiv_fin_inf {a b : Nat} (h : rg a < 2139095040) (h' : rg b = 2139095040) : fdiv a b = pk (sg a ^^ sg b) 0 := by
  unfold fdiv Format.div
  rw [read_fin h, read_inf h', ← write_zero _ 0]
  rfl
theorem fdiv_zero {a b : Nat} (h : rg a < 2139095040) (h' : rg b = 0) : fdiv a b = if rg a = 0 then 2143289344 else pk (sg a ^^ sg b) 2139095040 := by
  unfold fdiv Format.div
  rw [read_fin h, read_fin (by omega), ← write_inf]
  simp only [Datum.quotient, mg_zero, if_pos h']
  split <;> rfl

/-- What is written of a number whose nearest rung is known. -/
theorem write_near {s : Bool} {m : Nat} {p : Int} {R : Nat} (h : Near 23 R (m * 2 ^ (p + 149).toNat) (2 ^ (-149 - p).toNat)) : single.write (.number s m p) = pk s (min R 2139095040) :=
  (write_number s m p).unique ⟨R, near_iff.1 h, rfl⟩ (sane_cq _ _ (Nat.two_pow_pos _))
theorem rg_form (a : Nat) : rg a = kk a * 2 ^ 23 + mg a := by
  unfold kk mg
  simp only [show (2 : Nat) ^ 23 = 8388608 from rfl]
  split <;> omega
/-- A sum, as one number. -/
theorem fadd_num {a b : Nat} (ha : rg a < 2139095040) (hb : rg b < 2139095040) (h : kk b ≤ kk a) (T : Int)
    (hT : T = (if sg a then -((mg a * 2 ^ (kk a - kk b) : Nat) : Int) else ((mg a * 2 ^ (kk a - kk b) : Nat) : Int)) + (if sg b then -((mg b : Nat) : Int) else ((mg b : Nat) : Int))) :
    fadd a b = single.write (.number (if T = 0 then sg a && sg b else decide (T < 0)) T.natAbs (-149 + (kk b : Int))) := by
  unfold fadd Format.add
  rw [read_fin ha, read_fin hb]
  simp only [Datum.sum, Option.map_some, res, Option.getD_some]
  have e1 : min (-149 + (kk a : Int)) (-149 + (kk b : Int)) = -149 + (kk b : Int) := by omega
  have e2 : (-149 + (kk a : Int) - (-149 + (kk b : Int))).toNat = kk a - kk b := by omega
  have e3 : (-149 + (kk b : Int) - (-149 + (kk b : Int))).toNat = 0 := by omega
  rw [e1, e2, e3]
  have e4 : signed (sg a) (mg a) (kk a - kk b) + signed (sg b) (mg b) 0 = T := by
    rw [hT]
    unfold signed
    rw [Nat.shiftLeft_eq, Nat.shiftLeft_zero]
  rw [e4]

theorem flip_lt {b : Nat} (h : b < 4294967296) : flip b = if b < 2147483648 then b + 2147483648 else b - 2147483648 := by
  unfold flip
  have h1 : b = b / 2147483648 * 2147483648 + b % 2147483648 := by omega
  have e : b ^^^ 2147483648 = 2147483648 * ((b / 2147483648) ^^^ 1) + b % 2147483648 := by
    apply Nat.eq_of_testBit_eq
    intro i
    have hb : b = 2 ^ 31 * (b / 2147483648) + b % 2147483648 := by omega
    have hlt : b % 2147483648 < 2 ^ 31 := by omega
    rw [show 2147483648 * ((b / 2147483648) ^^^ 1) + b % 2147483648 = 2 ^ 31 * ((b / 2147483648) ^^^ 1) + b % 2147483648 from rfl]
    rw [Nat.testBit_xor, Nat.testBit_two_pow_mul_add _ hlt]
    conv => lhs; arg 1; rw [hb]
    rw [Nat.testBit_two_pow_mul_add _ hlt]
    rw [show (2147483648 : Nat) = 2 ^ 31 from rfl, Nat.testBit_two_pow]
    split
    · rename_i hi
      have : (decide (31 = i)) = false := by simp; omega
      rw [this]; simp
    · rename_i hi
      rw [Nat.testBit_xor]
      congr 1
      have : (1 : Nat) = 2 ^ 0 := rfl
      rw [this, Nat.testBit_two_pow]
      congr 1
      simp
      omega
  rw [e]
  have h2 : b / 2147483648 = 0 ∨ b / 2147483648 = 1 := by omega
  rcases h2 with h2 | h2
  · rw [h2, if_pos (by omega)]
    have : (0 : Nat) ^^^ 1 = 1 := rfl
    rw [this]; omega
  · rw [h2, if_neg (by omega)]
    have : (1 : Nat) ^^^ 1 = 0 := rfl
    rw [this]; omega
theorem sg_flip {b : Nat} (h : b < 4294967296) : sg (flip b) = !sg b := by
  rw [flip_lt h]
  unfold sg
  split
  · have h1 : (b + 2147483648) / 2147483648 % 2 = 1 := by omega
    have h2 : b / 2147483648 % 2 = 0 := by omega
    rw [h1, h2]; rfl
  · have h1 : (b - 2147483648) / 2147483648 % 2 = 0 := by omega
    have h2 : b / 2147483648 % 2 = 1 := by omega
    rw [h1, h2]; rfl
theorem rg_flip {b : Nat} (h : b < 4294967296) : rg (flip b) = rg b := by
  rw [flip_lt h]
  unfold rg
  split <;> omega
theorem flip_lt' {b : Nat} (h : b < 4294967296) : flip b < 4294967296 := by
  rw [flip_lt h]
  split <;> omega
theorem read_flip {b : Nat} (h : b < 4294967296) : single.read (flip b) = (single.read b).opposite := by
  have hs := sg_flip h
  have hr := rg_flip h
  rcases Nat.lt_trichotomy (rg b) 2139095040 with c | c | c
  · rw [read_fin c, read_fin (by rw [hr]; exact c), hs]
    unfold mg kk
    rw [hr]
    rfl
  · rw [read_inf c, read_inf (by rw [hr]; exact c), hs]; rfl
  · rw [read_nan c, read_nan (by rw [hr]; exact c), hs, hr]; rfl
/-- A difference is a sum with the other sign. -/
theorem fsub_flip {a b : Nat} (h : b < 4294967296) : fsub a b = fadd a (flip b) := by
  unfold fsub fadd Format.sub Format.add
  rw [read_flip h]
/-- The sign turned, told. -/
theorem fneg_num {a : Nat} (h : a < 4294967296) (h' : rg a ≤ 2139095040) : fneg a = flip a := tl_num (by rw [rg_flip h]; exact h')
theorem fneg_nan {a : Nat} (h : a < 4294967296) (h' : 2139095040 < rg a) : fneg a = 2143289344 := tl_nan (by rw [rg_flip h]; exact h')
end Lathe

namespace Lathe
open Ieee

/-- A number's value, in units: an infinity lies beyond all. -/
def W (a : Nat) : Int := if sg a then -(U 23 (rg a) : Int) else (U 23 (rg a) : Int)
theorem compare_lt_iff_lt {x y : Int} : compare x y = .lt ↔ x < y := by
  show compareOfLessAndEq x y = .lt ↔ x < y
  unfold compareOfLessAndEq
  split
  · simp [*]
  · split <;> simp <;> omega
theorem compare_eq_iff_eq {x y : Int} : compare x y = .eq ↔ x = y := by
  show compareOfLessAndEq x y = .eq ↔ x = y
  unfold compareOfLessAndEq
  split
  · simp; omega
  · split <;> simp [*]
theorem compare_gt_iff_gt {x y : Int} : compare x y = .gt ↔ y < x := by
  show compareOfLessAndEq x y = .gt ↔ y < x
  unfold compareOfLessAndEq
  split
  · simp; omega
  · split <;> simp <;> omega
theorem cmp_mul {x y c : Int} (h : 0 < c) : compare (x * c) (y * c) = compare x y := by
  rcases Int.lt_trichotomy x y with d | d | d
  · rw [compare_lt_iff_lt.2 d, compare_lt_iff_lt]
    exact Int.mul_lt_mul_of_pos_right d h
  · subst d
    rw [compare_eq_iff_eq.2 rfl, compare_eq_iff_eq.2 rfl]
  · rw [compare_gt_iff_gt.2 d, compare_gt_iff_gt]
    exact Int.mul_lt_mul_of_pos_right d h

theorem order_num {a b : Nat} (ha : rg a ≤ 2139095040) (hb : rg b ≤ 2139095040) : single.order a b = some (compare (W a) (W b)) := by
  unfold Format.order
  have hbig (c : Nat) (hc : rg c < 2139095040) : U 23 (rg c) < U 23 2139095040 := U_mono hc
  rcases Nat.lt_or_ge (rg a) 2139095040 with c | c
  · rcases Nat.lt_or_ge (rg b) 2139095040 with d | d
    · rw [read_fin c, read_fin d]
      simp only [Datum.order]
      generalize hbase : min (-149 + (kk a : Int)) (-149 + (kk b : Int)) = base
      have key (c : Nat) (hc : base ≤ -149 + (kk c : Int)) : W c = signed (sg c) (mg c) (-149 + (kk c : Int) - base).toNat * (2 ^ (base + 149).toNat : Nat) := by
        unfold W signed
        have e : U 23 (rg c) = mg c <<< (-149 + (kk c : Int) - base).toNat * 2 ^ (base + 149).toNat := by
          rw [U_mg, Nat.shiftLeft_eq, Nat.mul_assoc, ← Nat.pow_add]
          congr 2
          omega
        rw [e]
        split <;> simp [Int.neg_mul]
      have hpos : (0 : Int) < (2 ^ (base + 149).toNat : Nat) := by
        have := Nat.two_pow_pos (base + 149).toNat
        omega
      rw [key a (by omega), key b (by omega), cmp_mul hpos]
    · have d : rg b = 2139095040 := by omega
      rw [read_fin c, read_inf d]
      have h1 := hbig a c
      simp only [Datum.order]
      unfold W
      rw [d]
      congr 1
      cases sg b
      · simp only [Bool.false_eq_true, if_false]
        symm
        rw [compare_lt_iff_lt]
        split <;> omega
      · simp only [if_true]
        symm
        rw [compare_gt_iff_gt]
        split <;> omega
  · have c : rg a = 2139095040 := by omega
    rw [read_inf c]
    rcases Nat.lt_or_ge (rg b) 2139095040 with d | d
    · rw [read_fin d]
      have h1 := hbig b d
      simp only [Datum.order]
      unfold W
      rw [c]
      congr 1
      cases sg a
      · simp only [Bool.false_eq_true, if_false]
        symm
        rw [compare_gt_iff_gt]
        split <;> omega
      · simp only [if_true]
        symm
        rw [compare_lt_iff_lt]
        split <;> omega
    · have d : rg b = 2139095040 := by omega
      rw [read_inf d]
      have h1 : 0 < U 23 2139095040 := U_pos (by omega)
      simp only [Datum.order]
      unfold W
      rw [c, d]
      congr 1
      cases sg a <;> cases sg b <;> simp only [Bool.false_eq_true, if_false, if_true, Bool.toNat_true, Bool.toNat_false] <;> symm
      · exact compare_eq_iff_eq.2 rfl
      · rw [compare_gt_iff_gt.2 (show (-(U 23 2139095040 : Int)) < (U 23 2139095040 : Int) by omega)]; rfl
      · rw [compare_lt_iff_lt.2 (show (-(U 23 2139095040 : Int)) < (U 23 2139095040 : Int) by omega)]; rfl
      · exact compare_eq_iff_eq.2 rfl

/-- Below, equal: of numbers. -/
theorem flt_num {a b : Nat} (ha : rg a ≤ 2139095040) (hb : rg b ≤ 2139095040) : flt a b = decide (W a < W b) := by
  unfold flt
  rw [order_num ha hb, Bool.eq_iff_iff]
  simp [compare_lt_iff_lt]
theorem flt_nan {a b : Nat} (h : 2139095040 < rg a ∨ 2139095040 < rg b) : flt a b = false := by
  unfold flt
  rcases h with h | h
  · rw [(order_nan h b).1]; rfl
  · rw [(order_nan h a).2]; rfl
/-- The place of a number among all: minus nought below plus nought. -/
def key (a : Nat) : Int := if sg a then -(rg a : Int) - 1 else (rg a : Int)
theorem W_lt {a b : Nat} : W a < W b ↔ key a < key b ∧ ¬ (rg a = 0 ∧ rg b = 0) := by
  have h1 : rg a < rg b ↔ U 23 (rg a) < U 23 (rg b) := U_lt_iff.symm
  have h2 : rg b < rg a ↔ U 23 (rg b) < U 23 (rg a) := U_lt_iff.symm
  have h3 : rg a = 0 ↔ U 23 (rg a) = 0 := ⟨fun h => by rw [h, U_zero], fun h => Nat.eq_zero_of_not_pos fun z => by have := U_pos (f := 23) z; omega⟩
  have h4 : rg b = 0 ↔ U 23 (rg b) = 0 := ⟨fun h => by rw [h, U_zero], fun h => Nat.eq_zero_of_not_pos fun z => by have := U_pos (f := 23) z; omega⟩
  unfold W key
  cases sg a <;> cases sg b <;> simp only [Bool.false_eq_true, if_false, if_true] <;> omega
theorem W_eq {a b : Nat} (ha : a < 4294967296) (hb : b < 4294967296) : W a = W b ↔ a = b ∨ (rg a = 0 ∧ rg b = 0) := by
  constructor
  · intro h
    have l1 : ¬ W a < W b := by omega
    have l2 : ¬ W b < W a := by omega
    rw [W_lt] at l1 l2
    by_cases z : rg a = 0 ∧ rg b = 0
    · exact .inr z
    · left
      have k : key a = key b := by
        have : ¬ (rg b = 0 ∧ rg a = 0) := fun h => z ⟨h.2, h.1⟩
        simp only [z, this, not_false_eq_true, and_true] at l1 l2
        omega
      have pa := pk_of ha
      have pb := pk_of hb
      unfold key at k
      have hh : sg a = sg b ∧ rg a = rg b := by
        cases h1 : sg a <;> cases h2 : sg b <;> simp only [h1, h2, Bool.false_eq_true, if_false, if_true] at k <;> first | (exact ⟨rfl, by omega⟩) | omega
      rw [← pa, ← pb, hh.1, hh.2]
  · rintro (h | ⟨h1, h2⟩)
    · rw [h]
    · unfold W
      rw [h1, h2, U_zero]
      simp

theorem fmin_num {a b : Nat} (ha : rg a ≤ 2139095040) (hb : rg b ≤ 2139095040) (h1 : a < 4294967296) (h2 : b < 4294967296) : fmin a b = if key b < key a then b else a := by
  unfold fmin fmin?
  rw [order_num ha hb]
  rcases Int.lt_trichotomy (W a) (W b) with c | c | c
  · rw [compare_lt_iff_lt.2 c]
    have := (W_lt.1 c).1
    have hm : (if key b < key a then b else a) = a := if_neg (by omega)
    rw [hm]
    rfl
  · rw [compare_eq_iff_eq.2 c]
    show (if (single.read a).neg then a else b) = _
    rcases (W_eq h1 h2).1 c with e | ⟨z1, z2⟩
    · subst e
      simp
    · rw [read_fin (by omega)]
      show (if sg a then a else b) = _
      have pa := pk_of h1
      have pb := pk_of h2
      unfold key
      rw [z1] at pa
      rw [z2] at pb
      rw [z1, z2]
      rw [← pa, ← pb, sg_pk (by omega), sg_pk (by omega)]
      cases sg a <;> cases sg b <;> simp
  · rw [compare_gt_iff_gt.2 c]
    have := (W_lt.1 c).1
    have hm : (if key b < key a then b else a) = b := if_pos (by omega)
    rw [hm]
    rfl
theorem fmax_num {a b : Nat} (ha : rg a ≤ 2139095040) (hb : rg b ≤ 2139095040) (h1 : a < 4294967296) (h2 : b < 4294967296) : fmax a b = if key a < key b then b else a := by
  unfold fmax fmax?
  rw [order_num ha hb]
  rcases Int.lt_trichotomy (W a) (W b) with c | c | c
  · rw [compare_lt_iff_lt.2 c]
    have := (W_lt.1 c).1
    have hm : (if key a < key b then b else a) = b := if_pos (by omega)
    rw [hm]
    rfl
  · rw [compare_eq_iff_eq.2 c]
    show (if (single.read a).neg then b else a) = _
    rcases (W_eq h1 h2).1 c with e | ⟨z1, z2⟩
    · subst e
      simp
    · rw [read_fin (by omega)]
      show (if sg a then b else a) = _
      have pa := pk_of h1
      have pb := pk_of h2
      unfold key
      rw [z1] at pa
      rw [z2] at pb
      rw [z1, z2]
      rw [← pa, ← pb, sg_pk (by omega), sg_pk (by omega)]
      cases sg a <;> cases sg b <;> simp
  · rw [compare_gt_iff_gt.2 c]
    have := (W_lt.1 c).1
    have hm : (if key a < key b then b else a) = a := if_neg (by omega)
    rw [hm]
    rfl
theorem fmin_nan {a b : Nat} (h : 2139095040 < rg a ∨ 2139095040 < rg b) : fmin a b = 2143289344 := by
  unfold fmin fmin?
  rcases h with h | h
  · rw [(order_nan h b).1]; rfl
  · rw [(order_nan h a).2]; rfl
theorem fmax_nan {a b : Nat} (h : 2139095040 < rg a ∨ 2139095040 < rg b) : fmax a b = 2143289344 := by
  unfold fmax fmax?
  rcases h with h | h
  · rw [(order_nan h b).1]; rfl
  · rw [(order_nan h a).2]; rfl
end Lathe

namespace Lathe
open Go

/-- The rounds of a power, from the bit ahead of place j downwards. -/
def powL (x n : Nat) : Nat → Nat → Nat
  | 0, r => r
  | j + 1, r => powL x n j (if n / 2 ^ j % 2 = 1 then fmul (fmul r r) x else fmul r r)
def fpow (x : Nat) (n : Int) : Nat := if n < 1 then 1065353216 else powL x n.toNat (Lib.bitLen n.toNat - 1) (tl x)

theorem bitLenAux_spec : ∀ (k x : Nat), x ≠ 0 → x < 2 ^ k → Lib.bitLenAux k x = x.log2 + 1
  | 0, x, h, h' => by simp at h'; omega
  | k + 1, x, h, h' => by
    unfold Lib.bitLenAux
    rw [if_neg h]
    by_cases c : x / 2 = 0
    · have hx : x = 1 := by omega
      subst hx
      have h1 : Nat.log2 1 = 0 := by decide
      cases k <;> simp [Lib.bitLenAux, h1]
    · rw [bitLenAux_spec k (x / 2) c (by rw [Nat.pow_succ] at h'; omega)]
      rw [Nat.log2_def x, if_pos (by omega)]
      omega
theorem bitLen_log (n : Nat) (h : n ≠ 0) (h2 : n < 2 ^ 64) : Lib.bitLen n = n.log2 + 1 := bitLenAux_spec 64 n h h2
theorem bitLen_pos (n : Nat) (h : 1 ≤ n) (h2 : n ≤ 9223372036854775807) : 1 ≤ Lib.bitLen n ∧ Lib.bitLen n ≤ 63 := by
  rw [bitLen_log n (by omega) (by omega)]
  have h3 : n.log2 < 63 := (Nat.log2_lt (by omega)).2 (by omega)
  omega
end Lathe
