/- A pattern's digits and their place, as the float statements take them; the nearest of two. No condition. -/
import Derived.Test.YtcegmbplgghjnaaRlg
import Derived.Test.YtcegmbplgghjnaaPub
import Derived.Test.YtcegmbplgghjnaaFpe
import Derived.Test.YtcegmbplgghjnaaPFx16
import Derived.Test.YtcegmbplgghjnaaPFx2
set_option linter.unusedVariables false
set_option linter.unusedSimpArgs false
namespace Go.Proofs.Ytcegmbplgghjnaa.Rlh
open Go.Proofs.Ytcegmbplgghjnaa.Rlg Go.RowKit Lathe Go.Proofs.Ytcegmbplgghjnaa.PF Go.Proofs.Ytcegmbplgghjnaa.Ref Go.Proofs.Ytcegmbplgghjnaa.Rla Go.Proofs.Ytcegmbplgghjnaa.Rlb Go.Proofs.Ytcegmbplgghjnaa.Rlc Go.Proofs.Ytcegmbplgghjnaa.Rle Go.Proofs.Ytcegmbplgghjnaa.Pub Go.Proofs.YtcegmbplgghjnaaW.PrintWords Go.Proofs.YtcegmbplgghjnaaW.PrintMore

theorem and_i64 (x m : Nat) (hx : x < 9223372036854775808) (hm : m < 9223372036854775808) : Go.bits .and .i64 (x : Int) (m : Int) = ((x &&& m : Nat) : Int) := by
  unfold Go.bits
  rw [BitVec.ofInt_natCast, BitVec.ofInt_natCast]
  have h1 : (BitVec.ofNat IntKind.i64.bits x &&& BitVec.ofNat IntKind.i64.bits m).toNat = x &&& m := by
    rw [BitVec.toNat_and]
    have e1 : (BitVec.ofNat IntKind.i64.bits x).toNat = x := Nat.mod_eq_of_lt (by show x < 2 ^ 64; omega)
    have e2 : (BitVec.ofNat IntKind.i64.bits m).toNat = m := Nat.mod_eq_of_lt (by show m < 2 ^ 64; omega)
    rw [e1, e2]
  show IntKind.i64.wrap _ = _
  have : x &&& m ≤ x := Nat.and_le_left
  rw [h1, IntKind.wrap_i64]
  omega
theorem parts_f (a : Nat) (ha : a < 4294967296) : lathelaw02_parts.f a = some (M a, (kk a : Int) - 149) := by
  unfold lathelaw02_parts.f
  simp only [n_f a ha, Option.bind_some]
  have hr := rg_lt a
  have e1 : Go.bits .and .i64 ((a : Int) / 8388608) 255 = ((rg a / 8388608 : Nat) : Int) := by
    have := and_i64 (a / 8388608) 255 (by omega) (by omega)
    rw [show (255 : Nat) = 2 ^ 8 - 1 from rfl, Nat.and_two_pow_sub_one_eq_mod] at this
    have e : a / 8388608 % 2 ^ 8 = rg a / 8388608 := by unfold rg; omega
    rw [e] at this
    exact this
  have e2 : Go.bits .and .i64 (a : Int) 8388607 = ((rg a % 8388608 : Nat) : Int) := by
    have := and_i64 a 8388607 (by omega) (by omega)
    rw [show (8388607 : Nat) = 2 ^ 23 - 1 from rfl, Nat.and_two_pow_sub_one_eq_mod] at this
    have e : a % 2 ^ 23 = rg a % 8388608 := by unfold rg; omega
    rw [e] at this
    exact this
  rw [e1, e2]
  have hk : wrap64 ((mx ((rg a / 8388608 : Nat) : Int) 1) - 150) = (kk a : Int) - 149 := by
    unfold mx kk
    split
    · rw [w64 (by omega) (by omega)]; omega
    · rw [w64 (by omega) (by omega)]; omega
  have hs : sg a = decide ((a : Int) / 2147483648 = 1) := by
    unfold sg
    rw [Bool.eq_iff_iff]
    simp
    omega
  rw [hk]
  unfold M mg
  rw [hs]
  by_cases c : rg a < 8388608
  · rw [if_neg (by omega), if_pos c]
    by_cases d : (a : Int) / 2147483648 = 1
    · rw [if_pos d, decide_eq_true d, if_pos rfl, w64 (by omega) (by omega)]
      congr 3
      omega
    · rw [if_neg d, decide_eq_false d]
      simp only [Bool.false_eq_true, if_false]
      congr 3
      omega
  · rw [if_pos (by omega), if_neg c]
    by_cases d : (a : Int) / 2147483648 = 1
    · rw [if_pos d, decide_eq_true d, if_pos rfl, w64 (n := _ + 8388608) (by omega) (by omega), w64 (by omega) (by omega)]
      congr 3
      omega
    · rw [if_neg d, decide_eq_false d, w64 (n := _ + 8388608) (by omega) (by omega)]
      simp only [Bool.false_eq_true, if_false]
      congr 3
      omega

/-- A shift that leaves all digits. -/
theorem shl_d (x : Int) (d : Nat) (hd : d ≤ 64) (h0 : -9223372036854775808 ≤ x * 2 ^ d) (h1 : x * 2 ^ d ≤ 9223372036854775807) : shl .i64 x (d : Int) = x * 2 ^ d := by
  unfold shl
  rw [Int.toNat_natCast]
  have : min d IntKind.i64.bits = d := by
    have : IntKind.i64.bits = 64 := rfl
    rw [this]; omega
  rw [this, IntKind.wrap_i64]
  generalize x * 2 ^ d = X at *
  omega

theorem even_f (m n : Int) (d : Nat) (m0 : -16777216 ≤ m) (m1 : m ≤ 16777216) (n0 : -2305843009213693952 ≤ n) (n1 : n ≤ 2305843009213693952) (hd : d ≤ 36)
    (h1 : 2 * (n - m * 2 ^ d).natAbs ≤ 2 ^ d) (h2 : 2 * (n - m * 2 ^ d).natAbs = 2 ^ d → m % 2 = 0) : lathelaw02_even.f m n d = some true := by
  unfold lathelaw02_even.f
  by_cases z : d = 0
  · subst z
    rw [if_pos (by omega)]
    rw [Nat.pow_zero, Int.pow_zero] at h1
    have : m = n := by omega
    rw [this]
    simp
  · rw [if_neg (by omega)]
    obtain ⟨b0, b1⟩ := lt_sq m0 m1 hd
    have hp : 2 ^ d = 2 * 2 ^ (d - 1) := by
      rw [← Nat.pow_succ']; congr 1; omega
    have hp36 : 2 ^ (d - 1) ≤ 2 ^ 36 := Nat.pow_le_pow_right (by omega) (by omega)
    rw [show (2 : Nat) ^ 36 = 68719476736 from rfl] at hp36
    have s1 : shl .i64 m (d : Int) = m * 2 ^ d := shl_d m d (by omega) (by omega) (by omega)
    have s2 : shl .i64 1 ((d : Int) - 1) = ((2 ^ (d - 1) : Nat) : Int) := by
      have := shl_d 1 (d - 1) (by omega) (by rw [pow_cast]; omega) (by rw [pow_cast]; omega)
      rw [show ((d - 1 : Nat) : Int) = (d : Int) - 1 by omega] at this
      rw [this, pow_cast]
      omega
    rw [u64 (n := (d : Int)) (by omega) (by omega), s1, if_pos (by omega), w64 (n := (d : Int) - 1) (by omega) (by omega), u64 (n := (d : Int) - 1) (by omega) (by omega), s2]
    rw [hp] at h1 h2
    generalize m * 2 ^ d = X at *
    generalize 2 ^ (d - 1) = H at *
    have hm : m % 2 = 0 → (Int.tmod m 2 == 0) = true := by
      intro h
      rw [beq_iff_eq]
      exact Int.tmod_eq_zero_of_dvd (Int.dvd_of_emod_eq_zero h)
    rw [w64 (n := n - X) (by omega) (by omega)]
    by_cases c : n - X < 0
    · rw [if_pos c, if_pos (by omega), w64 (by omega) (by omega)]
      by_cases e : -(n - X) < (H : Int)
      · rw [if_pos e]
      · rw [if_neg e, if_pos (by omega), hm (h2 (by omega))]
    · rw [if_neg c, if_pos (by omega)]
      by_cases e : n - X < (H : Int)
      · rw [if_pos e]
      · rw [if_neg e, if_pos (by omega), hm (h2 (by omega))]

/-- Places, as the statements reckon with them. -/
theorem mn_c (i j : Nat) : mn ((i : Int) - 149) ((j : Int) - 149) = ((min i j : Nat) : Int) - 149 := by unfold mn; split <;> omega
theorem mx_c (i j : Nat) : mx ((i : Int) - 149) ((j : Int) - 149) = ((max i j : Nat) : Int) - 149 := by unfold mx; split <;> omega
theorem sub_c (i L : Nat) (hi : i ≤ 300) (hL : L ≤ 300) : wrap64 (((i : Int) - 149) - ((L : Int) - 149)) = (i : Int) - L := by
  rw [w64 (by omega) (by omega)]; omega
theorem sh_c (i L : Nat) (h : L ≤ i) (hi : i ≤ 300) : IntKind.u64.wrap (wrap64 (((i : Int) - 149) - ((L : Int) - 149))) = ((i - L : Nat) : Int) := by
  rw [sub_c i L hi (by omega), u64 (by omega) (by omega)]; omega
theorem kk_le' (a : Nat) : kk a ≤ 254 := by
  have := rg_lt a
  unfold kk
  omega
theorem shl_M (a d : Nat) (hd : d ≤ 36) : shl .i64 (M a) (d : Int) = M a * 2 ^ d := by
  have := M_le a
  have := lt_sq this.1 this.2 hd
  exact shl_d _ _ (by omega) (by omega) (by omega)
theorem M_M (a b : Nat) : -281474976710656 ≤ M a * M b ∧ M a * M b ≤ 281474976710656 := by
  have h1 := Int.natAbs_mul (M a) (M b)
  rw [M_abs, M_abs] at h1
  have := Nat.mul_le_mul (Nat.le_of_lt (mg_lt a)) (Nat.le_of_lt (mg_lt b))
  generalize mg a * mg b = X at *
  generalize M a * M b = Y at *
  omega
end Go.Proofs.Ytcegmbplgghjnaa.Rlh
