/- The pure form of PairPowers: powers. No condition. -/
import Derived.Test.YtcegmbplgghjnaaRlp
import Derived.Test.YtcegmbplgghjnaaPFx27
import Derived.Test.YtcegmbplgghjnaaPFx31
import Derived.Test.YtcegmbplgghjnaaPFx32
set_option linter.unusedVariables false
set_option linter.unusedSimpArgs false
namespace Go.Proofs.Ytcegmbplgghjnaa.Pure
open Go.RowKit Lathe Go.Proofs.Ytcegmbplgghjnaa.PF Go.Proofs.Ytcegmbplgghjnaa.Rla Go.Proofs.Ytcegmbplgghjnaa.Rlp Go.Proofs.YtcegmbplgghjnaaW.PrintWords Go.Proofs.YtcegmbplgghjnaaW.PrintMore
open Go.Proofs.Ytcegmbplgghjnaa.Rlc (Canon_f tl_lt)

theorem canon_q (a : Nat) (ha : a < 4294967296) : latheref04_canon.f a = some ((tl a : Nat) : Int) := by
  unfold latheref04_canon.f
  rw [w64 (by omega) (by omega), Canon_f a ha]
  simp -implicitDefEqProofs only [Option.bind_some]
  rw [m32 (tl_lt ha)]
theorem shr_n (n j : Nat) (hj : j ≤ 64) : shr .i64 (n : Int) (j : Int) = (n : Int) / 2 ^ j := by
  unfold shr
  rw [Int.toNat_natCast]
  have : min j IntKind.i64.bits = j := by
    have : IntKind.i64.bits = 64 := rfl
    rw [this]; omega
  rw [this]
theorem Power_l1 (n a b : Nat) (ha : a < 4294967296) (hb : b < 4294967296) (hn : n ≤ 9223372036854775807) : ∀ (j k : Nat) (r : Nat × Nat), j ≤ 63 → r.1 < 4294967296 → r.2 < 4294967296 → j + 100 ≤ k →
    latheref04_Power.l1 k n ((j : Int) - 1) a b r.1 r.2 = some ((((cpowL (a, b) n j r).1 : Nat) : Int), (((cpowL (a, b) n j r).2 : Nat) : Int))
  | 0, k, r, hj, h1, h2, hk => by
    obtain ⟨k, rfl⟩ : ∃ m, k = m + 1 := ⟨k - 1, by omega⟩
    rw [latheref04_Power.l1, if_neg (by omega)]
    rfl
  | j + 1, k, r, hj, h1, h2, hk => by
    obtain ⟨k, rfl⟩ : ∃ m, k = m + 1 := ⟨k - 1, by omega⟩
    obtain ⟨l1, l2⟩ := cmul_lt r r
    rw [latheref04_Power.l1, if_pos (by omega), Mul_p k r.1 r.2 r.1 r.2 h1 h2 h1 h2 (by omega)]
    simp -implicitDefEqProofs only [Option.bind_some]
    rw [show ((j + 1 : Nat) : Int) - 1 = (j : Int) by omega, u64 (by omega) (by omega), if_pos (by omega), shr_n n j (by omega), Go.Proofs.Ytcegmbplgghjnaa.Pow.bit_i64 n j hn, w64 (by omega) (by omega), cpowL]
    by_cases c : n / 2 ^ j % 2 = 1
    · rw [if_pos (by omega), if_pos c, Mul_p k _ _ a b l1 l2 ha hb (by omega)]
      simp -implicitDefEqProofs only [Option.bind_some]
      obtain ⟨m1, m2⟩ := cmul_lt (cmul r r) (a, b)
      exact Power_l1 n a b ha hb hn j k (cmul (cmul r r) (a, b)) (by omega) m1 m2 (by omega)
    · rw [if_neg (by omega), if_neg c]
      exact Power_l1 n a b ha hb hn j k (cmul r r) (by omega) l1 l2 (by omega)
theorem Power_l0 (n a b : Nat) (ha : a < 4294967296) (hb : b < 4294967296) (h1 : 1 ≤ n) (hn : n ≤ 9223372036854775807) : ∀ (d j k : Nat), j + d = n.log2 → n.log2 ≤ 62 → d + 200 ≤ k →
    latheref04_Power.l0 k n (j : Int) a b = some ((((cpowL (a, b) n n.log2 (tl a, tl b)).1 : Nat) : Int), (((cpowL (a, b) n n.log2 (tl a, tl b)).2 : Nat) : Int))
  | 0, j, k, hj, hl, hk => by
    obtain ⟨k, rfl⟩ : ∃ m, k = m + 1 := ⟨k - 1, by omega⟩
    have h2 : n < 2 ^ (n.log2 + 1) := Nat.lt_log2_self
    have h3 : n / 2 ^ j < 2 := by
      rw [Nat.div_lt_iff_lt_mul (Nat.two_pow_pos j), show j = n.log2 by omega]
      rw [Nat.pow_succ] at h2
      omega
    have h4 : (n : Int) / 2 ^ j = ((n / 2 ^ j : Nat) : Int) := (Go.Proofs.Ytcegmbplgghjnaa.Pow.cast_div n j).symm
    rw [latheref04_Power.l0, u64 (by omega) (by omega), if_pos (by omega), shr_n n j (by omega), h4, if_neg (by omega), canon_q a ha, canon_q b hb]
    simp -implicitDefEqProofs only [Option.bind_some]
    rw [w64 (by omega) (by omega), show j = n.log2 by omega]
    exact Power_l1 n a b ha hb hn n.log2 k (tl a, tl b) (by omega) (tl_lt ha) (tl_lt hb) (by omega)
  | d + 1, j, k, hj, hl, hk => by
    obtain ⟨k, rfl⟩ : ∃ m, k = m + 1 := ⟨k - 1, by omega⟩
    have h2 : 2 ^ n.log2 ≤ n := Nat.log2_self_le (by omega)
    have h3 : 2 ≤ n / 2 ^ j := by
      rw [Nat.le_div_iff_mul_le (Nat.two_pow_pos j)]
      refine Nat.le_trans ?_ h2
      rw [← Nat.pow_succ']
      exact Nat.pow_le_pow_right (by omega) (by omega)
    have h4 : (n : Int) / 2 ^ j = ((n / 2 ^ j : Nat) : Int) := (Go.Proofs.Ytcegmbplgghjnaa.Pow.cast_div n j).symm
    rw [latheref04_Power.l0, u64 (by omega) (by omega), if_pos (by omega), shr_n n j (by omega), h4, if_pos (by omega), w64 (by omega) (by omega), show (j : Int) + 1 = ((j + 1 : Nat) : Int) by omega]
    exact Power_l0 n a b ha hb h1 hn d (j + 1) k (by omega) hl (by omega)

theorem PairPowers (a0 a1 n0 : Int) (h0 : (Lit.int .u32 a0).wf = true) (h1 : (Lit.int .u32 a1).wf = true) (h2 : (Lit.int .i64 n0).wf = true) :
    ∃ k, lathelaw04_PairPowers.f k a0 a1 n0 = some true := by
  obtain ⟨a, rfl, ha⟩ := pat h0
  obtain ⟨b, rfl, hb⟩ := pat h1
  obtain ⟨n1, n2⟩ := whole h2
  obtain ⟨k, hk⟩ : ∃ k, 500 ≤ k := ⟨500, Nat.le_refl _⟩
  refine ⟨k, ?_⟩
  have key : latheref04_Power.f k a b n0 = some ((((cpow (a, b) n0).1 : Nat) : Int), (((cpow (a, b) n0).2 : Nat) : Int)) := by
    unfold latheref04_Power.f cpow
    by_cases c : n0 < 1
    · rw [if_pos c, if_pos c]; rfl
    · rw [if_neg c, if_neg c]
      obtain ⟨n, rfl⟩ := Int.eq_ofNat_of_zero_le (show 0 ≤ n0 by omega)
      have hl : n.log2 < 63 := (Nat.log2_lt (by omega)).2 (by omega)
      rw [Int.toNat_natCast, bitLen_log n (by omega) (by omega), Nat.add_sub_cancel]
      exact Power_l0 n a b ha hb (by omega) (by omega) n.log2 0 k (by omega) (by omega) (by omega)
  unfold lathelaw04_PairPowers.f pair_Power.f
  rw [if_pos ⟨Int.natCast_nonneg _, Int.natCast_nonneg _, n2⟩, key, works_f]
  simp -implicitDefEqProofs only [Option.bind_some, Int.toNat_natCast, beq_self_eq_true, Bool.and_self, if_true]
end Go.Proofs.Ytcegmbplgghjnaa.Pure
