/- The contract of package pair's Power. No condition. -/
import Derived.Test.YtcegmbplgghjnaaPaj
import Derived.Test.YtcegmbplgghjnaaPow
namespace Go.Proofs.Ytcegmbplgghjnaa.Pap
open Go.RowKit Lathe Go.Proofs.YtcegmbplgghjnaaW.PrintWords Go.Proofs.YtcegmbplgghjnaaW.PrintMore Go.Proofs.Ytcegmbplgghjnaa.Pai

theorem cmul_1 {a b c d x y : Nat} (h : tl x = fsub (fmul a c) (fmul b d)) (h' : tl y = fadd (fmul a d) (fmul b c)) : (tl x, tl y) = cmul (a, b) (c, d) := by rw [h, h']; rfl
set_option maxHeartbeats 1000000 in
theorem Power_a (a b n : Int) (w : World) (hn : n < 1) : Calls Try.prog 45 #[.agg #[.int .u32 a, .int .u32 b], .int .i64 n] w fun e w' => e = .returned (.agg #[.int .u32 1065353216, .int .u32 0]) ∧ Below w.heap.size w w' := by
  go_enter Try.func45, Try.ntmps45
  go_wp2
  exact bodyPost_ret (v := .agg #[.int .u32 1065353216, .int .u32 0]) (by simp [results, Try.results45, go_sem]) rfl ⟨rfl, by repeat (with_reducible first | exact Below.refl _ _ | apply below_alloc | apply pw_below_drewN | refine below_set ?_ (by omega))⟩
set_option maxHeartbeats 2000000 in
theorem Power_b (a b n : Nat) (w : World) (h1 : 1 ≤ n) (h2 : n ≤ 9223372036854775807) : Calls Try.prog 45 #[.agg #[.int .u32 a, .int .u32 b], .int .i64 n] w fun e w' => e = .returned (.agg #[.int .u32 ((cpowL (a, b) n (Lib.bitLen n - 1) (tl a, tl b)).1 : Nat), .int .u32 ((cpowL (a, b) n (Lib.bitLen n - 1) (tl a, tl b)).2 : Nat)]) ∧ Below w.heap.size w w' := by
  obtain ⟨l1, l2⟩ := bitLen_pos n h1 h2
  obtain ⟨R, S, hR⟩ : ∃ R S, (R, S) = cpowL (a, b) n (Lib.bitLen n - 1) (tl a, tl b) := ⟨_, _, rfl⟩
  rw [← hR]
  have HR := Aside0.mk hR
  clear hR
  obtain ⟨L, hL⟩ : ∃ L, Lib.bitLen n = L := ⟨_, rfl⟩
  have hlen : ∀ w, Calls Try.prog 95 #[.int .u64 n] w fun e w' => e = .returned (.int .i64 (L : Nat)) ∧ w = w' := fun w => (Try.bits_Len n w (by omega) (by omega)).mono fun e w' h => ⟨by rw [h.1, Int.toNat_natCast, hL], h.2.symm⟩
  rw [hL] at l1 l2
  have HL := Aside0.mk hL
  clear hL
  go_enter Try.func45, Try.ntmps45
  go_wp2_with (first | (go_at_call 86; refine (of_any _ _ _).mono ?_; rintro e w' ⟨rfl, nq, rfl⟩) | (go_at_call 95; refine (hlen _).mono ?_; rintro e w' ⟨rfl, rfl⟩))
  clear hlen
  go_loopw [6, 7] (fun v6 v7 wr => ∃ (j x y m : Nat) (i : Int), j ≤ 63 ∧ i + 1 ≤ j ∧ j ≤ i + 1 ∧ v6 = .complex .f32 x y ∧ v7 = .int .i64 i ∧ Aside0 (cpowL (a, b) n j (tl x, tl y) = (R, S)) ∧ (((w.alloc (.cells #[.int .u32 a, .int .u32 b] 25)).alloc (.cells #[.int .u32 0, .int .u32 0] 25)).alloc (.cells #[.int .u32 a, .int .u32 b] 25)).drewN m = wr) (fun _ v7 _ => (intOf v7 + 1).toNat)
  case atStart => exact ⟨L - 1, a, b, nq, (L : Int) - 2, by omega, by omega, by omega, rfl, rfl, ⟨by rw [HR.out, HL.out]⟩, rfl⟩
  case round =>
    obtain ⟨j, x, y, m0, i, hj, hi1, hi2, rfl, rfl, HP, rfl⟩ := hrel
    by_cases hi : 0 ≤ i
    · obtain ⟨m, rfl⟩ := Int.eq_ofNat_of_zero_le hi
      obtain rfl : j = m + 1 := by omega
      have hb := Go.Proofs.Ytcegmbplgghjnaa.Pow.bit_i64 n m h2
      have HP := HP.out
      by_cases hbit : n / 2 ^ m % 2 = 1
      · rw [hbit] at hb
        rw [cpowL, if_pos hbit] at HP
        have HP2 := Aside0.mk HP
        clear HP hbit
        go_wp2_with (first | (go_at_call 85; refine (product_any _ _ _ _ _).mono ?_; rintro e w' ⟨x1, y1, nd, rfl, hx1, hy1, rfl⟩; have HX := Aside0.mk (cmul_1 hx1 hy1); clear hx1 hy1))
        go_roundw
        case rel =>
          rename_i xa ya na H2
          exact ⟨m, _, _, _, (m : Int) - 1, by omega, by omega, by omega, rfl, rfl, ⟨by rw [HX.out, ← cmul_tl_left, H2.out, ← cmul_tl x y x y]; exact HP2.out⟩, rfl⟩
        case measure => simp [intOf]
      · have hbit0 : n / 2 ^ m % 2 = 0 := by omega
        rw [hbit0] at hb
        rw [cpowL, if_neg hbit] at HP
        have HP2 := Aside0.mk HP
        clear HP hbit hbit0
        go_wp2_with (first | (go_at_call 85; refine (product_any _ _ _ _ _).mono ?_; rintro e w' ⟨x1, y1, nd, rfl, hx1, hy1, rfl⟩; have HX := Aside0.mk (cmul_1 hx1 hy1); clear hx1 hy1))
        go_roundw
        case rel => exact ⟨m, _, _, _, (m : Int) - 1, by omega, by omega, by omega, rfl, rfl, ⟨by rw [HX.out, ← cmul_tl x y x y]; exact HP2.out⟩, rfl⟩
        case measure => simp [intOf]
    · obtain rfl : j = 0 := by omega
      have HP := HP.out
      simp only [cpowL, Prod.mk.injEq] at HP
      obtain ⟨hx, hy⟩ := HP
      go_wp2_with (first | (go_at_call 84; refine (told_any _ _ _).mono ?_; rintro e w' ⟨rfl, rfl⟩))
      exact bodyPost_ret (v := .agg #[.int .u32 R, .int .u32 S]) (by simp [results, Try.results45, go_sem]) rfl ⟨rfl, by repeat (with_reducible first | exact Below.refl _ _ | apply below_alloc | apply pw_below_drewN | refine below_set ?_ (by omega))⟩
theorem Power (a b n : Int) (w : World) (h2 : n ≤ 9223372036854775807) (ha : 0 ≤ a) (hb : 0 ≤ b) : Calls Try.prog 45 #[.agg #[.int .u32 a, .int .u32 b], .int .i64 n] w fun e w' => e = .returned (.agg #[.int .u32 ((cpow (a.toNat, b.toNat) n).1 : Nat), .int .u32 ((cpow (a.toNat, b.toNat) n).2 : Nat)]) ∧ Below w.heap.size w w' := by
  unfold cpow
  by_cases h : n < 1
  · rw [if_pos h]
    exact Power_a a b n w h
  · rw [if_neg h]
    obtain ⟨m, rfl⟩ := Int.eq_ofNat_of_zero_le (show 0 ≤ n by omega)
    obtain ⟨x, rfl⟩ := Int.eq_ofNat_of_zero_le ha
    obtain ⟨y, rfl⟩ := Int.eq_ofNat_of_zero_le hb
    exact Power_b x y m w (by omega) (by omega)
end Go.Proofs.Ytcegmbplgghjnaa.Pap
