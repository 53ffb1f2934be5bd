/- The reference's power is the model's. No condition. -/
import Derived.Test.YtcegmbplgghjnaaRlc
import Derived.Test.YtcegmbplgghjnaaPow
import Derived.Test.YtcegmbplgghjnaaPFx12
import Derived.Test.YtcegmbplgghjnaaPFx13
import Derived.Test.YtcegmbplgghjnaaPFx3
namespace Go.Proofs.Ytcegmbplgghjnaa.Rlf
open Go.RowKit Lathe Go.Proofs.Ytcegmbplgghjnaa.PF Go.Proofs.Ytcegmbplgghjnaa.Ref Go.Proofs.Ytcegmbplgghjnaa.Rla Go.Proofs.Ytcegmbplgghjnaa.Rlb Go.Proofs.Ytcegmbplgghjnaa.Rlc Go.Proofs.YtcegmbplgghjnaaW.PrintWords Go.Proofs.YtcegmbplgghjnaaW.PrintMore

theorem fmul_lt (a b : Nat) : fmul a b < 4294967296 := by
  unfold fmul Ieee.Format.mul
  cases (Ieee.single.read a).product (Ieee.single.read b) with
  | none => show (2143289344 : Nat) < 4294967296; omega
  | some d => exact Ieee.Format.write_lt Ieee.single d
theorem powL_lt (x n : Nat) : ∀ (j r : Nat), r < 4294967296 → powL x n j r < 4294967296
  | 0, r, h => h
  | j + 1, r, h => by
    rw [powL]
    split
    · exact powL_lt x n j _ (fmul_lt _ _)
    · exact powL_lt x n j _ (fmul_lt _ _)
theorem fpow_lt (x : Nat) (n : Int) (hx : x < 4294967296) : fpow x n < 4294967296 := by
  unfold fpow
  split
  · omega
  · exact powL_lt _ _ _ _ (tl_lt hx)

theorem Power_l0 (x n : Nat) (hx : x < 4294967296) (hn : n ≤ 9223372036854775807) : ∀ (j k r : Nat), j ≤ 63 → r < 4294967296 → j + 90 ≤ k → latheref02_Power.l0 k x n r ((j : Int) - 1) = some ((powL x n j r : Nat) : Int)
  | 0, k, r, hj, hr, hk => by
    obtain ⟨k, rfl⟩ : ∃ m, k = m + 1 := ⟨k - 1, by omega⟩
    rw [latheref02_Power.l0, if_neg (by omega)]
    rfl
  | j + 1, k, r, hj, hr, hk => by
    obtain ⟨k, rfl⟩ : ∃ m, k = m + 1 := ⟨k - 1, by omega⟩
    rw [latheref02_Power.l0, if_pos (by omega), Mul_f k r r hr hr (by omega)]
    simp -implicitDefEqProofs only [Option.bind_some]
    rw [show ((j + 1 : Nat) : Int) - 1 = (j : Int) by omega, u64 (by omega) (by omega), if_pos (by omega)]
    have hs : shr .i64 (n : Int) (j : Int) = (n : Int) / 2 ^ j := by
      unfold shr
      rw [Int.toNat_natCast]
      have : min j IntKind.i64.bits = j := by
        have : IntKind.i64.bits = 64 := rfl
        rw [this]; omega
      rw [this]
    rw [hs, Go.Proofs.Ytcegmbplgghjnaa.Pow.bit_i64 n j hn, w64 (by omega) (by omega), powL]
    by_cases c : n / 2 ^ j % 2 = 1
    · rw [if_pos (by omega), if_pos c, Mul_f k _ x (fmul_lt r r) hx (by omega)]
      simp -implicitDefEqProofs only [Option.bind_some]
      exact Power_l0 x n hx hn j k _ (by omega) (fmul_lt _ _) (by omega)
    · rw [if_neg (by omega), if_neg c]
      exact Power_l0 x n hx hn j k _ (by omega) (fmul_lt _ _) (by omega)

theorem Power_f (k x : Nat) (n : Int) (hx : x < 4294967296) (hn : n ≤ 9223372036854775807) (hk : 200 ≤ k) : latheref02_Power.f k x n = some ((fpow x n : Nat) : Int) := by
  unfold latheref02_Power.f fpow
  by_cases c : n < 1
  · rw [if_pos c, if_pos c]
    rfl
  · rw [if_neg c, if_neg c]
    obtain ⟨m, rfl⟩ := Int.eq_ofNat_of_zero_le (show 0 ≤ n by omega)
    rw [Canon_f x hx]
    simp -implicitDefEqProofs only [Option.bind_some, Int.toNat_natCast]
    obtain ⟨l1, l2⟩ := bitLen_pos m (by omega) (by omega)
    have hb : blen m = Lib.bitLen m := by
      rw [bitLen_log m (by omega) (by omega)]
      unfold blen
      rw [if_neg (by omega)]
    rw [u64 (by omega) (by omega), length_f k m (by omega) (by omega), hb]
    simp -implicitDefEqProofs only [Option.bind_some]
    rw [w64 (by omega) (by omega)]
    have := Power_l0 x m hx (by omega) (Lib.bitLen m - 1) k (tl x) (by omega) (tl_lt hx) (by omega)
    rw [show ((Lib.bitLen m - 1 : Nat) : Int) - 1 = (Lib.bitLen m : Int) - 2 by omega] at this
    exact this
end Go.Proofs.Ytcegmbplgghjnaa.Rlf
