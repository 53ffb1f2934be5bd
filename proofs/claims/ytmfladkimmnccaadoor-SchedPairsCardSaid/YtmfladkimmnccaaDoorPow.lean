/- The contract of package float's Power. No condition. -/
import Derived.Test.YtmfladkimmnccaaDoorWal
import Derived.Test.YtmfladkimmnccaaDoorFlo
import Derived.Test.YtmfladkimmnccaaDoorFpc
import Derived.Test.YtmfladkimmnccaaDoorShelf
import Derived.Laws.BitsLemmas
import Derived.LoopTactic
namespace Go.Proofs.YtmfladkimmnccaaDoor.Pow
open Go.RowKit Lathe Go.Proofs.YtmfladkimmnccaaDoorW.PrintWords Go.Proofs.YtmfladkimmnccaaDoorW.PrintMore Go.Proofs.YtmfladkimmnccaaDoor.Flo

theorem Power_a (x n : Int) (w : World) (hn : n < 1) : Calls Tryd.prog 55 #[.int .u32 x, .int .i64 n] w fun e w' => e = .returned (.int .u32 1065353216) ∧ w = w' := by
  go_enter Tryd.func55, Tryd.ntmps55
  go_wp2
  go_ret
  exact ⟨rfl, rfl⟩
theorem ret_u32 {a b : Int} (h : a = b) : Ending.returned (.int .u32 a) = .returned (.int .u32 b) := by rw [h]
theorem cast_div (n j : Nat) : ((n / 2 ^ j : Nat) : Int) = (n : Int) / 2 ^ j := by norm_cast
theorem bit_i64 (n j : Nat) (h : n ≤ 9223372036854775807) : Go.bits .and .i64 ((n : Int) / 2 ^ j) 1 = ((n / 2 ^ j % 2 : Nat) : Int) := by
  have hle := Nat.div_le_self n (2 ^ j)
  have hlt : (n / 2 ^ j : Nat) < 2 ^ 63 := by omega
  have hlt2 : ((n / 2 ^ j : Nat) : Int) < 2 ^ 63 := Int.ofNat_lt.2 hlt
  have := bits_mask .i64 63 (by decide) (fun n h0 h1 => by rw [IntKind.wrap_i64]; omega) 1 (by omega) ((n / 2 ^ j : Nat) : Int) (Int.natCast_nonneg _) hlt2
  rw [cast_div] at this
  rw [Int.natCast_emod, cast_div]
  simpa using this
set_option maxHeartbeats 1000000 in
theorem Power_b (x n : Nat) (w : World) (h1 : 1 ≤ n) (h2 : n ≤ 9223372036854775807) : Calls Tryd.prog 55 #[.int .u32 x, .int .i64 n] w fun e w' => e = .returned (.int .u32 (powL x n (Lib.bitLen n - 1) (tl x) : Nat)) ∧ Drawn0 w w' := by
  obtain ⟨l1, l2⟩ := bitLen_pos n h1 h2
  obtain ⟨R, hR⟩ : ∃ R, R = powL x n (Lib.bitLen n - 1) (tl x) := ⟨_, rfl⟩
  rw [← hR]
  have HR := Aside0.mk hR
  clear hR
  obtain ⟨L, hL⟩ : ∃ L, Lib.bitLen n = L := ⟨_, rfl⟩
  have hlen : ∀ w, Calls Tryd.prog 76 #[.int .u64 n] w fun e w' => e = .returned (.int .i64 (L : Nat)) ∧ w = w' := fun w => (Tryd.bits_Len n w (by omega) (by omega)).mono fun e w' h => ⟨by rw [h.1, Int.toNat_natCast, hL], h.2.symm⟩
  rw [hL] at l1 l2
  have HL := Aside0.mk hL
  clear hL
  go_enter Tryd.func55, Tryd.ntmps55
  go_wp2_with (first | (go_at_call 70; refine (of_any _ _).mono ?_; rintro e w' ⟨rfl, rfl⟩) | (go_at_call 69; refine (told_any _ _).mono ?_; rintro e w' ⟨rfl, rfl⟩) | (go_at_call 76; refine (hlen _).mono ?_; rintro e w' ⟨rfl, rfl⟩))
  clear hlen
  go_loopw [5, 6] (fun v5 v6 wr => ∃ (j r : Nat) (i : Int), j ≤ 63 ∧ i + 1 ≤ j ∧ j ≤ i + 1 ∧ v5 = .int .u32 r ∧ v6 = .int .i64 i ∧ Aside0 (powL x n j r = R) ∧ Drawn0 w wr) (fun _ v6 _ => (intOf v6 + 1).toNat)
  case atStart => exact ⟨L - 1, tl x, (L : Int) - 2, by omega, by omega, by omega, rfl, rfl, ⟨by rw [HR.out, HL.out]⟩, Drawn0.refl _⟩
  case round =>
    obtain ⟨j, r, i, hj, hi1, hi2, rfl, rfl, HP, HD⟩ := hrel
    by_cases hi : 0 ≤ i
    · obtain ⟨m, rfl⟩ := Int.eq_ofNat_of_zero_le hi
      obtain rfl : j = m + 1 := by omega
      have hb := bit_i64 n m h2
      have HP := HP.out
      by_cases hbit : n / 2 ^ m % 2 = 1
      · rw [hbit] at hb
        rw [powL, if_pos hbit] at HP
        have HP2 := Aside0.mk HP
        clear HP hbit
        go_wp2_with (first | (go_at_call 40; refine (Mul _ _ _).mono ?_; rintro e w' ⟨rfl, ⟨nd, rfl⟩⟩))
        go_roundw
        case rel => exact ⟨m, _, (m : Int) - 1, by omega, by omega, by omega, rfl, rfl, HP2, by repeat (first | exact HD | apply Drawn0.step)⟩
        case measure => simp [intOf]
      · have hbit0 : n / 2 ^ m % 2 = 0 := by omega
        rw [hbit0] at hb
        rw [powL, if_neg hbit] at HP
        have HP2 := Aside0.mk HP
        clear HP hbit hbit0
        go_wp2_with (first | (go_at_call 40; refine (Mul _ _ _).mono ?_; rintro e w' ⟨rfl, ⟨nd, rfl⟩⟩))
        go_roundw
        case rel => exact ⟨m, _, (m : Int) - 1, by omega, by omega, by omega, rfl, rfl, HP2, by repeat (first | exact HD | apply Drawn0.step)⟩
        case measure => simp [intOf]
    · obtain rfl : j = 0 := by omega
      go_wp2
      go_ret
      exact ⟨ret_u32 (congrArg Nat.cast HP.out), HD⟩
theorem Power (x n : Int) (w : World) (h2 : n ≤ 9223372036854775807) (hx : 0 ≤ x) : Calls Tryd.prog 55 #[.int .u32 x, .int .i64 n] w fun e w' => e = .returned (.int .u32 (fpow x.toNat n : Nat)) ∧ Drawn0 w w' := by
  unfold fpow
  by_cases h : n < 1
  · rw [if_pos h]
    exact (Power_a x n w h).mono fun e w' h => ⟨h.1, h.2 ▸ Drawn0.refl _⟩
  · rw [if_neg h]
    obtain ⟨m, rfl⟩ := Int.eq_ofNat_of_zero_le (show 0 ≤ n by omega)
    obtain ⟨y, rfl⟩ := Int.eq_ofNat_of_zero_le hx
    exact Power_b y m w (by omega) (by omega)
end Go.Proofs.YtmfladkimmnccaaDoor.Pow
