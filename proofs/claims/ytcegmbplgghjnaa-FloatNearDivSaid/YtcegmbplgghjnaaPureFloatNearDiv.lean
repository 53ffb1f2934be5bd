/- The pure form of FloatNearDiv: a quotient is the number that lies nearest. No condition. -/
import Derived.Test.YtcegmbplgghjnaaRlh
import Derived.Test.YtcegmbplgghjnaaPFx18
set_option linter.unusedVariables false
set_option linter.unusedSimpArgs false
namespace Go.Proofs.Ytcegmbplgghjnaa.Pure
open Go.RowKit Lathe Go.Proofs.Ytcegmbplgghjnaa.PF Go.Proofs.Ytcegmbplgghjnaa.Pub Go.Proofs.Ytcegmbplgghjnaa.Rla Go.Proofs.Ytcegmbplgghjnaa.Rlb Go.Proofs.Ytcegmbplgghjnaa.Rlc Go.Proofs.Ytcegmbplgghjnaa.Rle Go.Proofs.Ytcegmbplgghjnaa.Rlg Go.Proofs.Ytcegmbplgghjnaa.Rlh Go.Proofs.YtcegmbplgghjnaaW.PrintWords Go.Proofs.YtcegmbplgghjnaaW.PrintMore

theorem tail_p (I K m : Int) (s : Nat) (r : Option Bool) (i0 : -16777216 ≤ I) (i1 : I ≤ 16777216) (hs : s ≤ 36) (p0 : -281474976710656 ≤ m * K) (p1 : m * K ≤ 281474976710656) (k0 : 0 < K) (k1 : K ≤ 16777216)
    (h1 : 2 * (I * 2 ^ s - m * K).natAbs ≤ K.natAbs) (h2 : 2 * (I * 2 ^ s - m * K).natAbs = K.natAbs → m % 2 = 0) :
    (if 0 ≤ (IntKind.u64.wrap (s : Int)) then (if (wrap64 ((shl .i64 I (IntKind.u64.wrap (s : Int))) - (wrap64 (m * K)))) < 0 then (if (wrap64 (2 * (wrap64 (-(wrap64 ((shl .i64 I (IntKind.u64.wrap (s : Int))) - (wrap64 (m * K)))))))) < K then r else (if (wrap64 (2 * (wrap64 (-(wrap64 ((shl .i64 I (IntKind.u64.wrap (s : Int))) - (wrap64 (m * K)))))))) = K then (if (Int.tmod m 2) = 0 then r else (some false)) else (some false))) else (if (wrap64 (2 * (wrap64 ((shl .i64 I (IntKind.u64.wrap (s : Int))) - (wrap64 (m * K)))))) < K then r else (if (wrap64 (2 * (wrap64 ((shl .i64 I (IntKind.u64.wrap (s : Int))) - (wrap64 (m * K)))))) = K then (if (Int.tmod m 2) = 0 then r else (some false)) else (some false)))) else none) = r := by
  have b := lt_sq i0 i1 hs
  rw [u64 (by omega) (by omega), if_pos (by omega), shl_d I s (by omega) (by omega) (by omega)]
  have hm : m % 2 = 0 → Int.tmod m 2 = 0 := fun h => Int.tmod_eq_zero_of_dvd (Int.dvd_of_emod_eq_zero h)
  generalize I * 2 ^ s = X at *
  generalize m * K = Y at *
  rw [w64 (n := Y) (by omega) (by omega), w64 (n := X - Y) (by omega) (by omega), w64 (n := -(X - Y)) (by omega) (by omega), w64 (n := 2 * -(X - Y)) (by omega) (by omega), w64 (n := 2 * (X - Y)) (by omega) (by omega)]
  by_cases c : X - Y < 0
  · rw [if_pos c]
    by_cases d : 2 * -(X - Y) < K
    · rw [if_pos d]
    · rw [if_neg d, if_pos (by omega), if_pos (hm (h2 (by omega)))]
  · rw [if_neg c]
    by_cases d : 2 * (X - Y) < K
    · rw [if_pos d]
    · rw [if_neg d, if_pos (by omega), if_pos (hm (h2 (by omega)))]

theorem FloatNearDiv : lathelaw02_FloatNearDiv.Pure := by
  intro a0 a1 h0 h1
  obtain ⟨a, rfl, ha⟩ := pat h0
  obtain ⟨b, rfl, hb⟩ := pat h1
  obtain ⟨k, _⟩ : ∃ k, 0 ≤ k := ⟨0, Nat.le_refl _⟩
  refine ⟨k + 1, ?_⟩
  unfold lathelaw02_FloatNearDiv.f
  rw [parts_f a ha, parts_f b hb, finite_f a ha, finite_f b hb, div_p]
  simp -implicitDefEqProofs only [Option.bind_some]
  rw [parts_f _ (fdiv_lt a b), finite_f _ (fdiv_lt a b)]
  simp -implicitDefEqProofs only [Option.bind_some]
  have out (x y z u : Int) : lathelaw02_FloatNearDiv.j0 (k + 1) x y z u true = some true := by
    rw [lathelaw02_FloatNearDiv.j0, if_pos rfl, works_f]; rfl
  have k1 := kk_le' a
  have k2 := kk_le' b
  have k3 := kk_le' (fdiv a b)
  have hD : wrap64 (wrap64 (((kk a : Int) - 149) - ((kk b : Int) - 149)) - ((kk (fdiv a b) : Int) - 149)) = (kk a : Int) + 149 - kk b - kk (fdiv a b) := by
    rw [sub_c _ _ (by omega) (by omega), w64 (by omega) (by omega)]; omega
  rw [hD]
  by_cases c : rg a < 2139095040
  · rw [decide_eq_true c, if_pos rfl]
    by_cases d : rg b < 2139095040
    · rw [decide_eq_true d, if_pos rfl]
      by_cases e : rg (fdiv a b) < 2139095040
      · rw [decide_eq_true e, if_pos rfl]
        by_cases z : M b = 0
        · rw [if_pos z]; exact out _ _ _ _
        · rw [if_neg z]
          by_cases s : (kk a : Int) + 149 - kk b - kk (fdiv a b) < 0
          · rw [if_pos s]; exact out _ _ _ _
          · rw [if_neg s]
            by_cases g : (kk a : Int) + 149 - kk b - kk (fdiv a b) > 36
            · rw [decide_eq_true g]; exact out _ _ _ _
            · rw [decide_eq_false g, lathelaw02_FloatNearDiv.j0, if_neg (by decide), works_f]
              simp -implicitDefEqProofs only [Option.bind_some]
              obtain ⟨n, hn⟩ := Int.eq_ofNat_of_zero_le (Int.not_lt.1 s)
              have hz : rg b ≠ 0 := fun h => z (by have := mg_zero.2 h; have := M_abs b; omega)
              obtain ⟨t1, t2, t3, t4⟩ := div_near (d := n) c d hz e (by omega)
              rw [hn]
              have mA := M_le a
              have mB := M_le b
              have mZ := M_le (fdiv a b)
              have pZ := M_M (fdiv a b) b
              have bB := M_abs b
              have hpar : mg (fdiv a b) % 2 = 0 → M (fdiv a b) % 2 = 0 := by unfold M; split <;> omega
              have e1 : M a * 2 ^ n = if sg a then -((mg a * 2 ^ n : Nat) : Int) else ((mg a * 2 ^ n : Nat) : Int) := by
                unfold M
                rw [pow_cast, Int.natCast_mul]
                split
                · rw [Int.neg_mul]
                · rfl
              have e2 : M (fdiv a b) * M b = if sg a then -((mg (fdiv a b) * mg b : Nat) : Int) else ((mg (fdiv a b) * mg b : Nat) : Int) := by
                unfold M
                rw [t4, Int.natCast_mul]
                cases sg a <;> cases sg b <;> simp [Int.neg_mul, Int.mul_neg]
              have e3 : (M a * 2 ^ n - M (fdiv a b) * M b).natAbs = (mg a * 2 ^ n - mg (fdiv a b) * mg b) + (mg (fdiv a b) * mg b - mg a * 2 ^ n) := by
                rw [e1, e2]
                generalize mg a * 2 ^ n = X at *
                generalize mg (fdiv a b) * mg b = Y at *
                split <;> omega
              by_cases q : M b < 0
              · rw [if_pos q, w64 (n := -M a) (by omega) (by omega), w64 (n := -M b) (by omega) (by omega)]
                have e4 : (-M a * 2 ^ n - M (fdiv a b) * -M b).natAbs = (M a * 2 ^ n - M (fdiv a b) * M b).natAbs := by
                  rw [Int.neg_mul, Int.mul_neg]
                  omega
                refine tail_p (-M a) (-M b) (M (fdiv a b)) n (some true) (by omega) (by omega) (by omega) (by rw [Int.mul_neg]; omega) (by rw [Int.mul_neg]; omega) (by omega) (by omega) ?_ ?_
                · rw [e4, e3]; omega
                · rw [e4, e3]; exact fun h => hpar (t3 (by omega))
              · rw [if_neg q]
                refine tail_p (M a) (M b) (M (fdiv a b)) n (some true) (by omega) (by omega) (by omega) (by omega) (by omega) (by omega) (by omega) ?_ ?_
                · rw [e3]; omega
                · rw [e3]; exact fun h => hpar (t3 (by omega))
      · rw [decide_eq_false e, if_neg (by decide)]; exact out _ _ _ _
    · rw [decide_eq_false d, if_neg (by decide)]; exact out _ _ _ _
  · rw [decide_eq_false c, if_neg (by decide)]; exact out _ _ _ _
end Go.Proofs.Ytcegmbplgghjnaa.Pure
