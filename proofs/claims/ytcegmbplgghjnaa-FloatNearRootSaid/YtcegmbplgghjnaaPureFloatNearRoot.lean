/- The pure form of FloatNearRoot: a root is the number that lies nearest. No condition. -/
import Derived.Test.YtcegmbplgghjnaaRlh
import Derived.Test.YtcegmbplgghjnaaPFx19
set_option linter.unusedVariables false
set_option linter.unusedSimpArgs false
namespace Go.Proofs.Ytcegmbplgghjnaa.Pure
open Go.RowKit Lathe Go.Proofs.Ytcegmbplgghjnaa.PF Go.Proofs.Ytcegmbplgghjnaa.Pub Go.Proofs.Ytcegmbplgghjnaa.Rla Go.Proofs.Ytcegmbplgghjnaa.Rlb Go.Proofs.Ytcegmbplgghjnaa.Rlc Go.Proofs.Ytcegmbplgghjnaa.Rle Go.Proofs.Ytcegmbplgghjnaa.Rlg Go.Proofs.Ytcegmbplgghjnaa.Rlh Go.Proofs.YtcegmbplgghjnaaW.PrintWords Go.Proofs.YtcegmbplgghjnaaW.PrintMore

theorem FloatNearRoot : lathelaw02_FloatNearRoot.Pure := by
  intro a0 h0
  obtain ⟨a, rfl, ha⟩ := pat h0
  obtain ⟨k, _⟩ : ∃ k, 0 ≤ k := ⟨0, Nat.le_refl _⟩
  refine ⟨k + 1, ?_⟩
  unfold lathelaw02_FloatNearRoot.f
  rw [parts_f a ha, finite_f a ha, sqrt_p]
  simp -implicitDefEqProofs only [Option.bind_some]
  rw [parts_f _ (fsqrt_lt a)]
  simp -implicitDefEqProofs only [Option.bind_some]
  have out (x y z : Int) : lathelaw02_FloatNearRoot.j0 (k + 1) x y z true = some true := by
    rw [lathelaw02_FloatNearRoot.j0, if_pos rfl, works_f]; rfl
  have k1 := kk_le' a
  have k2 := kk_le' (fsqrt a)
  have hD : wrap64 (wrap64 (((kk a : Int) - 149) - wrap64 (2 * ((kk (fsqrt a) : Int) - 149))) + 2) = (kk a : Int) + 151 - 2 * kk (fsqrt a) := by
    rw [w64 (n := 2 * ((kk (fsqrt a) : Int) - 149)) (by omega) (by omega), w64 (n := _ - _) (by omega) (by omega), w64 (by omega) (by omega)]; omega
  rw [hD]
  by_cases c : rg a < 2139095040
  · rw [decide_eq_true c, if_pos rfl]
    by_cases d : M a ≤ 0
    · rw [if_pos d]
      exact out _ _ _
    · rw [if_neg d]
      by_cases e : (kk a : Int) + 151 - 2 * kk (fsqrt a) < 0
      · rw [if_pos e]
        exact out _ _ _
      · rw [if_neg e]
        by_cases g : (kk a : Int) + 151 - 2 * kk (fsqrt a) > 36
        · rw [decide_eq_true g]
          exact out _ _ _
        · rw [decide_eq_false g, lathelaw02_FloatNearRoot.j0, if_neg (by decide)]
          obtain ⟨n, hn⟩ := Int.eq_ofNat_of_zero_le (Int.not_lt.1 e)
          have hs : sg a = false := by
            cases h : sg a
            · rfl
            · unfold M at d; rw [h] at d; simp only [if_true] at d; omega
          have h0 : rg a ≠ 0 := by
            intro h
            have := mg_zero.2 h
            have := M_abs a
            omega
          have hk := kk_le c
          have hz : rg (fsqrt a) < 2139095040 := by
            rcases Nat.lt_or_ge (rg (fsqrt a)) 2139095040 with h | h
            · exact h
            · have : kk (fsqrt a) = rg (fsqrt a) / 8388608 - 1 := rfl
              omega
          obtain ⟨t1, t2, t3, t4⟩ := sqrt_near (s := n) c h0 hs hz (by omega) (by omega)
          have em : M a = (mg a : Int) := by unfold M; rw [hs]; rfl
          have ez : M (fsqrt a) = (mg (fsqrt a) : Int) := by unfold M; rw [t1]; rfl
          have ml := mg_lt (fsqrt a)
          rw [hn, u64 (by omega) (by omega), if_pos (by omega), shl_M a n (by omega)]
          rw [w64 (n := 2 * M (fsqrt a)) (by omega) (by omega), w64 (n := 2 * M (fsqrt a) - 1) (by omega) (by omega), w64 (n := 2 * M (fsqrt a) + 1) (by omega) (by omega)]
          have f1 : M a * 2 ^ n = ((mg a * 2 ^ n : Nat) : Int) := by rw [em, pow_cast, Int.natCast_mul]
          have f2 : (2 * M (fsqrt a) - 1) * (2 * M (fsqrt a) - 1) = (((2 * mg (fsqrt a) - 1) * (2 * mg (fsqrt a) - 1) : Nat) : Int) := by
            rw [Int.natCast_mul, ez]; congr 1 <;> omega
          have f3 : (2 * M (fsqrt a) + 1) * (2 * M (fsqrt a) + 1) = (((2 * mg (fsqrt a) + 1) * (2 * mg (fsqrt a) + 1) : Nat) : Int) := by
            rw [Int.natCast_mul, ez]; congr 1 <;> omega
          have g1 : (2 * mg (fsqrt a) - 1) * (2 * mg (fsqrt a) - 1) ≤ 33554433 * 33554433 := Nat.mul_le_mul (by omega) (by omega)
          have g2 : (2 * mg (fsqrt a) + 1) * (2 * mg (fsqrt a) + 1) ≤ 33554433 * 33554433 := Nat.mul_le_mul (by omega) (by omega)
          rw [f1, f2, f3, w64 (by omega) (by omega), w64 (by omega) (by omega), if_pos (by omega), if_pos (by omega), works_f]
          rfl
  · rw [decide_eq_false c, if_neg (by decide)]
    exact out _ _ _
end Go.Proofs.Ytcegmbplgghjnaa.Pure
