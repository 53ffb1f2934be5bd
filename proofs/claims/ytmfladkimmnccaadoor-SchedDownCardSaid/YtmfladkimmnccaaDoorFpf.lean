/- Products of few digits are exact; the root of a square is the number; whole numbers add and multiply. No condition. -/
import Derived.Test.YtmfladkimmnccaaDoorFpe
set_option linter.unusedVariables false
set_option linter.unusedSimpArgs false
namespace Lathe
open Ieee

theorem U_bin' (j r : Nat) (h : r = (j + 1) * 8388608) : U 23 r = 2 ^ (23 + j) := by rw [h]; exact U_bin 23 j
/-- Two products of numbers of 12 bits. -/
theorem prod12 {a b : Nat} (ha : rg a < 2139095040) (hb : rg b < 2139095040) (h1 : mg a % 4096 = 0) (h2 : mg b % 4096 = 0) (hz : rg (fmul a b) < 2139095040) (hn : 8388608 ≤ rg (fmul a b)) :
    ∃ t, t ≤ 24 ∧ 1 ≤ t ∧ kk a + kk b + t = kk (fmul a b) + 149 ∧ M a * M b = M (fmul a b) * 2 ^ t := by
  obtain ⟨h, hs⟩ := (fmul_fin ha hb).fin hz
  have hN := near_iff.2 h
  have hu := near_ulp hN (rg_form _) (mg_lt _) (mg_ge _)
  generalize hzz : fmul a b = z at *
  have mz : 8388608 ≤ mg z := by
    unfold mg
    rw [if_neg (by omega)]; omega
  have mz2 := mg_lt z
  have ma := mg_lt a
  have mb := mg_lt b
  obtain ⟨x, hx⟩ : ∃ x, mg a = x * 4096 := ⟨mg a / 4096, by omega⟩
  obtain ⟨y, hy⟩ : ∃ y, mg b = y * 4096 := ⟨mg b / 4096, by omega⟩
  have hxy : x * y ≤ 4095 * 4095 := Nat.mul_le_mul (by omega) (by omega)
  have hmm : mg a * mg b = x * y * 2 ^ 24 := by rw [hx, hy, show (2 : Nat) ^ 24 = 4096 * 4096 from rfl]; grind
  have hp : U 23 (rg a) * U 23 (rg b) = x * y * 2 ^ (24 + kk a + kk b) := by
    rw [U_mg, U_mg, Nat.mul_mul_mul_comm, hmm, Nat.mul_assoc, ← Nat.pow_add, ← Nat.pow_add]
    congr 2
    omega
  have hexact : ∃ g, g + 149 = 24 + kk a + kk b ∧ mg z * 2 ^ kk z = x * y * 2 ^ g := by
    rcases Nat.lt_or_ge (24 + kk a + kk b) 149 with c | c
    · exfalso
      have l := hu.1
      obtain ⟨e, he⟩ : ∃ e, 149 = e + 1 + (24 + kk a + kk b) := ⟨148 - (24 + kk a + kk b), by omega⟩
      rw [hp] at l
      have q : (2 : Nat) ^ 149 = 2 ^ (e + 1) * 2 ^ (24 + kk a + kk b) := by rw [← Nat.pow_add, ← he]
      rw [q] at l
      have hQ := Nat.two_pow_pos (24 + kk a + kk b)
      have hK := Nat.two_pow_pos (kk z)
      have hE := Nat.two_pow_pos e
      generalize 2 ^ (24 + kk a + kk b) = Q at *
      rw [Nat.pow_succ] at l
      generalize 2 ^ kk z = K at *
      generalize 2 ^ e = E at *
      have l' : 2 * (mg z * K * (E * 2)) ≤ 2 * (x * y) + K * (E * 2) := by
        refine Nat.le_of_mul_le_mul_right (c := Q) ?_ hQ
        rw [Nat.add_mul]
        have e1 : 2 * (mg z * K * (E * 2)) * Q = 2 * (mg z * K * (E * 2 * Q)) := by grind
        have e2 : 2 * (x * y) * Q = 2 * (x * y * Q) := by grind
        have e3 : K * (E * 2) * Q = K * (E * 2 * Q) := by grind
        rw [e1, e2, e3]
        exact l
      have hKE : 1 ≤ K * E := Nat.mul_pos hK hE
      have e1 : mg z * K * (E * 2) = 2 * (mg z * (K * E)) := by grind
      have e2 : K * (E * 2) = 2 * (K * E) := by grind
      rw [e1, e2] at l'
      have l2 : 8388608 * (K * E) ≤ mg z * (K * E) := Nat.mul_le_mul_right _ mz
      generalize K * E = KE at *
      generalize mg z * KE = X at *
      omega
    · obtain ⟨g, hg⟩ : ∃ g, g + 149 = 24 + kk a + kk b := ⟨24 + kk a + kk b - 149, by omega⟩
      refine ⟨g, hg, ?_⟩
      obtain ⟨r, hr⟩ := rep_mk g (x * y) (by omega)
      rw [hp, ← hg, Nat.pow_add, ← Nat.mul_assoc, ← hr] at hN
      have := hN.unique (Near.self 23 r) (Nat.two_pow_pos 149) (by omega) (by rw [Nat.mul_one])
      rw [← U_mg, this, hr]
  obtain ⟨g, hg, hM⟩ := hexact
  have hK := Nat.two_pow_pos (kk z)
  have hG := Nat.two_pow_pos g
  have hxy1 : 1 ≤ x * y := by
    rcases Nat.eq_zero_or_pos (x * y) with c | c
    · rw [c, Nat.zero_mul] at hM
      have := Nat.mul_pos (show 0 < mg z by omega) hK
      omega
    · exact c
  have k1 : kk z ≤ g := by
    rcases Nat.lt_or_ge g (kk z) with c | c
    · exfalso
      have : 2 ^ (g + 1) ≤ 2 ^ kk z := Nat.pow_le_pow_right (by omega) c
      rw [Nat.pow_succ] at this
      have i1 : 8388608 * (2 ^ g * 2) ≤ mg z * 2 ^ kk z := Nat.mul_le_mul mz this
      have i2 : x * y * 2 ^ g ≤ 16777215 * 2 ^ g := Nat.mul_le_mul_right _ (by omega)
      omega
    · exact c
  have k2 : g < 24 + kk z := by
    rcases Nat.lt_or_ge g (24 + kk z) with c | c
    · exact c
    · exfalso
      have : 2 ^ (24 + kk z) ≤ 2 ^ g := Nat.pow_le_pow_right (by omega) c
      rw [Nat.pow_add] at this
      have i1 : 1 * 2 ^ g ≤ x * y * 2 ^ g := Nat.mul_le_mul_right _ hxy1
      have i2 : mg z * 2 ^ kk z ≤ 16777215 * 2 ^ kk z := Nat.mul_le_mul_right _ (by omega)
      omega
  refine ⟨24 + kk z - g, by omega, by omega, by omega, ?_⟩
  have hfin : mg a * mg b = mg z * 2 ^ (24 + kk z - g) := by
    refine Nat.eq_of_mul_eq_mul_right hG ?_
    rw [hmm, Nat.mul_assoc (mg z), ← Nat.pow_add, show 24 + kk z - g + g = kk z + 24 by omega, Nat.pow_add, ← Nat.mul_assoc, hM]
    grind
  unfold M
  rw [hs, pow_cast]
  have : ((mg z : Nat) : Int) * ((2 ^ (24 + kk z - g) : Nat) : Int) = ((mg a : Nat) : Int) * ((mg b : Nat) : Int) := by rw [← Int.natCast_mul, ← Int.natCast_mul, hfin]
  cases sg a <;> cases sg b <;> simp only [Bool.xor_false, Bool.false_xor, Bool.xor_self, Bool.xor_true, Bool.true_xor, Bool.not_false, Bool.not_true, if_true, if_false, Bool.false_eq_true, Int.neg_mul, Int.mul_neg, Int.neg_neg, this]

theorem pow_eq {m n : Nat} (h : m = n) : 2 ^ m = 2 ^ n := by rw [h]
theorem sq_le {x n : Nat} (h : x ≤ 2 ^ n) : x * x ≤ 2 ^ (n + n) := by
  rw [Nat.pow_add]
  exact Nat.mul_le_mul h h
theorem sq_ge {x n : Nat} (h : 2 ^ n ≤ x) : 2 ^ (n + n) ≤ x * x := by
  rw [Nat.pow_add]
  exact Nat.mul_le_mul h h
theorem bound_le {y a b c : Nat} (h : y ≤ 2 ^ a) (e : a = b + c) : y ≤ 2 ^ b * 2 ^ c := by
  rw [e, Nat.pow_add] at h
  exact h
theorem bound_ge {y a b c : Nat} (h : 2 ^ a ≤ y) (e : a = b + c) : 2 ^ b * 2 ^ c ≤ y := by
  rw [e, Nat.pow_add] at h
  exact h
theorem bound_lt {x a b c : Nat} (h : x ≤ 2 ^ a) (e : a + b < c) : x * 2 ^ b < 2 ^ c := by
  have h1 : x * 2 ^ b ≤ 2 ^ a * 2 ^ b := Nat.mul_le_mul_right _ h
  rw [← Nat.pow_add] at h1
  exact Nat.lt_of_le_of_lt h1 (Nat.pow_lt_pow_right (by omega) e)
theorem exp1 {k : Nat} (h : 66 ≤ k) : 46 + (k + k) = 23 + (23 + (k + k) - 149) + 149 := by omega
theorem exp2 {k : Nat} (h : 66 ≤ k) : 23 + (23 + (k + k) - 149) = 46 + (k + k) - 149 := by omega
theorem exp3 {k : Nat} (h : 66 ≤ k) : 46 + (k + k) - 149 + 149 = 46 + (k + k) := by omega
theorem U_binv (r j : Nat) (h : r = (j + 1) * 8388608) : ∃ e, e = 23 + j ∧ U 23 r = 2 ^ e := ⟨_, rfl, U_bin' j r h⟩
theorem square_range {x R : Nat} (h0 : 562036736 ≤ x) (h1 : x ≤ 1568669696) (g : Near 23 R (U 23 x * U 23 x) (2 ^ 149)) : 58720256 ≤ R ∧ R ≤ 2071986176 := by
  obtain ⟨c, hc⟩ : ∃ c : Nat, c = 149 := ⟨_, rfl⟩
  rw [← hc] at g
  have l := U_le (f := 23) h0
  have h := U_le (f := 23) h1
  obtain ⟨e1, d1, u1⟩ := U_binv 562036736 66 (by decide)
  obtain ⟨e2, d2, u2⟩ := U_binv 1568669696 186 (by decide)
  obtain ⟨e3, d3, u3⟩ := U_binv 58720256 6 (by decide)
  obtain ⟨e4, d4, u4⟩ := U_binv 2071986176 246 (by decide)
  rw [u1] at l
  rw [u2] at h
  have l := sq_ge l
  have h := sq_le h
  constructor
  · refine (Near.self 23 58720256).mono g (by decide) (Nat.two_pow_pos c) ?_
    rw [u3, Nat.mul_one]
    exact bound_ge l (by omega)
  · refine g.mono (Near.self 23 2071986176) (Nat.two_pow_pos c) (by decide) ?_
    rw [u4, Nat.mul_one]
    exact bound_le h (by omega)
theorem fint_lt_inf {x r : Nat} (h : x ≤ 16777216) (hr : U 23 r = x * 2 ^ 149) : r < 2139095040 := by
  obtain ⟨c, hc⟩ : ∃ c : Nat, c = 149 := ⟨_, rfl⟩
  rw [← hc] at hr
  obtain ⟨e1, d1, u1⟩ := U_binv 2139095040 254 (by decide)
  refine (U_lt_iff (f := 23)).1 ?_
  rw [hr, u1]
  exact bound_lt (a := 24) h (by omega)
/-- The root of a square. -/
theorem root_square {a : Nat} (h0 : 562036736 ≤ rg a) (h1 : rg a ≤ 1568669696) : fsqrt (fmul a a) = rg a := by
  have ha : rg a < 2139095040 := by omega
  have hI := fmul_fin ha ha
  rw [Bool.xor_self] at hI
  obtain ⟨R, g, e⟩ := hI
  have g := near_iff.2 g
  have hq := Nat.two_pow_pos 149
  obtain ⟨hR0, hR1⟩ := square_range h0 h1 g
  have ez : fmul a a = R := by rw [e, show min R 2139095040 = R by omega]; rfl
  have hz1 : rg R = R := by unfold rg; omega
  have hz2 : sg R = false := by unfold sg; rw [Nat.div_eq_of_lt (by omega)]; rfl
  rw [ez]
  have hS := fsqrt_fin (a := R) (by omega) (by omega) hz2
  obtain ⟨S, s1, s2⟩ := hS
  have key : NearC 23 (rg a) (cs (U 23 (rg R) * 2 ^ 149)) := by
    rw [hz1]
    have fR : R = kk R * 8388608 + mg R := by
      have := rg_form R
      rw [hz1] at this
      exact this
    have hu := near_ulp g fR (mg_lt R) (mg_ge R)
    have mz : 8388608 ≤ mg R := by
      unfold mg
      rw [hz1, if_neg (by omega)]; omega
    have uR : U 23 R = mg R * 2 ^ kk R := by
      have := U_mg R
      rwa [hz1] at this
    have fa := rg_form a
    have m1 := mg_lt a
    have m0 : 8388608 ≤ mg a := by
      unfold mg
      rw [if_neg (by omega)]; omega
    have u0 := U_mg a
    have u1 : U 23 (kk a * 8388608 + mg a + 1) = (mg a + 1) * 2 ^ kk a := U_succ 23 (kk a) (mg a) m1 (.inr m0)
    have hsq : U 23 (rg a) * U 23 (rg a) = mg a * mg a * 2 ^ (kk a + kk a) := by
      rw [u0, Nat.mul_mul_mul_comm, ← Nat.pow_add]
    have e1 : U 23 R * 2 ^ 149 = mg R * 2 ^ (kk R + 149) := by rw [uR, Nat.mul_assoc, ← Nat.pow_add]
    have e2 : mg R * 2 ^ kk R * 2 ^ 149 = mg R * 2 ^ (kk R + 149) := by rw [Nat.mul_assoc, ← Nat.pow_add]
    have e3 : 2 ^ kk R * 2 ^ 149 = 2 ^ (kk R + 149) := by rw [← Nat.pow_add]
    rw [e2, e3, hsq] at hu
    have hQ := Nat.two_pow_pos (kk a + kk a)
    have hE : kk R + 149 ≤ kk a + kk a + 24 := by
      rcases Nat.lt_or_ge (kk a + kk a + 24) (kk R + 149) with c | c
      · exfalso
        have : 2 ^ (kk a + kk a + 25) ≤ 2 ^ (kk R + 149) := Nat.pow_le_pow_right (by omega) c
        rw [Nat.pow_add 2 (kk a + kk a) 25, show (2 : Nat) ^ 25 = 33554432 from rfl] at this
        have i1 : 8388608 * 2 ^ (kk R + 149) ≤ mg R * 2 ^ (kk R + 149) := Nat.mul_le_mul_right _ mz
        have i2 : mg a * mg a * 2 ^ (kk a + kk a) ≤ 16777215 * 16777215 * 2 ^ (kk a + kk a) := Nat.mul_le_mul_right _ (Nat.mul_le_mul (by omega) (by omega))
        have := hu.1
        generalize 2 ^ (kk a + kk a) = Q at *
        generalize 2 ^ (kk R + 149) = E at *
        generalize mg R * E = X at *
        generalize mg a * mg a * Q = Y at *
        omega
      · exact c
    have hE2 : 2 ^ (kk R + 149) ≤ 16777216 * 2 ^ (kk a + kk a) := by
      have := Nat.pow_le_pow_right (show 0 < 2 by omega) hE
      rw [Nat.pow_add 2 (kk a + kk a) 24, Nat.mul_comm (2 ^ (kk a + kk a)), show (2 : Nat) ^ 24 = 16777216 from rfl] at this
      exact this
    have ehi : hi 23 (rg a) = (2 * mg a + 1) * 2 ^ kk a := by
      unfold hi
      rw [u0]
      have : rg a + 1 = kk a * 8388608 + mg a + 1 := by omega
      rw [this, u1]; grind
    refine ⟨.inr (.inl ?_), .inl ?_⟩
    · unfold cs
      rw [Nat.compare_eq_lt, e1]
      by_cases b : mg a = 8388608
      · -- a power of two: its square is exact
        have hk : 66 ≤ kk a := by
          have : kk a = rg a / 8388608 - 1 := rfl
          omega
        have hx : U 23 R = 2 ^ (46 + (kk a + kk a) - 149) := by
          have v := U_bin' (23 + (kk a + kk a) - 149) ((23 + (kk a + kk a) - 149 + 1) * 8388608) rfl
          have s := Near.self 23 ((23 + (kk a + kk a) - 149 + 1) * 8388608)
          have : R = (23 + (kk a + kk a) - 149 + 1) * 8388608 := by
            refine g.unique s hq (by omega) ?_
            rw [hsq, v, b, Nat.mul_one, ← Nat.pow_add, show (8388608 : Nat) * 8388608 = 2 ^ 46 from rfl, ← Nat.pow_add]
            exact pow_eq (exp1 hk)
          rw [this, v]
          exact pow_eq (exp2 hk)
        have hP : mg R * 2 ^ (kk R + 149) = U 23 (rg a) * U 23 (rg a) := by
          rw [← e1, hx, hsq, b, show (8388608 : Nat) * 8388608 = 2 ^ 46 from rfl, ← Nat.pow_add, ← Nat.pow_add]
          exact pow_eq (exp3 hk)
        rw [hP]
        have : lo 23 (rg a) < 2 * U 23 (rg a) := by
          unfold lo
          have := U_mono (f := 23) (show rg a - 1 < rg a by omega)
          omega
        have := Nat.mul_lt_mul'' this this
        have e4 : 2 * U 23 (rg a) * (2 * U 23 (rg a)) = 4 * (U 23 (rg a) * U 23 (rg a)) := by grind
        omega
      · have elo : lo 23 (rg a) = (2 * mg a - 1) * 2 ^ kk a := by
          unfold lo
          rw [u0]
          have v : U 23 (kk a * 8388608 + (mg a - 1)) = (mg a - 1) * 2 ^ kk a := U_form 23 (kk a) _ (by omega) (by omega)
          rw [show rg a - 1 = kk a * 8388608 + (mg a - 1) by omega, v, ← Nat.add_mul]
          congr 1; omega
        have sq : lo 23 (rg a) * lo 23 (rg a) = (2 * mg a - 1) * (2 * mg a - 1) * 2 ^ (kk a + kk a) := by
          rw [elo, Nat.mul_mul_mul_comm, ← Nat.pow_add]
        rw [sq]
        have e5 : (2 * mg a - 1) * (2 * mg a - 1) + (4 * mg a - 1) = 4 * (mg a * mg a) := by
          obtain ⟨n, hn⟩ : ∃ n, mg a = n + 1 := ⟨mg a - 1, by omega⟩
          rw [hn, show 2 * (n + 1) - 1 = 2 * n + 1 by omega, show 4 * (n + 1) - 1 = 4 * n + 3 by omega]
          grind
        have e6 : (2 * mg a - 1) * (2 * mg a - 1) * 2 ^ (kk a + kk a) + (4 * mg a - 1) * 2 ^ (kk a + kk a) = 4 * (mg a * mg a * 2 ^ (kk a + kk a)) := by
          rw [← Nat.add_mul, e5, Nat.mul_assoc]
        have e7 : 33554434 * 2 ^ (kk a + kk a) ≤ (4 * mg a - 1) * 2 ^ (kk a + kk a) := Nat.mul_le_mul_right _ (by omega)
        have := hu.2.1
        generalize 2 ^ (kk a + kk a) = Q at *
        generalize 2 ^ (kk R + 149) = E at *
        generalize mg R * E = X at *
        generalize mg a * mg a * Q = Y at *
        generalize (2 * mg a - 1) * (2 * mg a - 1) * Q = Z at *
        generalize (4 * mg a - 1) * Q = T at *
        omega
    · unfold cs
      rw [Nat.compare_eq_gt, e1]
      have sq : hi 23 (rg a) * hi 23 (rg a) = (2 * mg a + 1) * (2 * mg a + 1) * 2 ^ (kk a + kk a) := by
        rw [ehi, Nat.mul_mul_mul_comm, ← Nat.pow_add]
      rw [sq]
      have e5 : (2 * mg a + 1) * (2 * mg a + 1) = 4 * (mg a * mg a) + (4 * mg a + 1) := by grind
      have e6 : (2 * mg a + 1) * (2 * mg a + 1) * 2 ^ (kk a + kk a) = 4 * (mg a * mg a * 2 ^ (kk a + kk a)) + (4 * mg a + 1) * 2 ^ (kk a + kk a) := by
        rw [e5, Nat.add_mul, Nat.mul_assoc]
      have e7 : 33554433 * 2 ^ (kk a + kk a) ≤ (4 * mg a + 1) * 2 ^ (kk a + kk a) := Nat.mul_le_mul_right _ (by omega)
      have := hu.1
      rw [e6]
      generalize 2 ^ (kk a + kk a) = Q at *
      generalize 2 ^ (kk R + 149) = E at *
      generalize mg R * E = X at *
      generalize mg a * mg a * Q = Y at *
      generalize (4 * mg a + 1) * Q = T at *
      omega
  have := s1.unique key (sane_cs _)
  rw [s2, this, show min (rg a) 2139095040 = rg a by omega]
  rfl

/-! ### whole numbers -/
theorem fint_is (n : Int) : Is (decide (n < 0)) (cq (n.natAbs * 2 ^ 149) 1) (fint n) := by
  have := write_number (decide (n < 0)) n.natAbs 0
  rw [show ((0 : Int) + 149).toNat = 149 from rfl, show ((-149 : Int) - 0).toNat = 0 from rfl, Nat.pow_zero] at this
  exact this
theorem fint_pk {n : Int} (h : n.natAbs ≤ 16777216) : ∃ r, U 23 r = n.natAbs * 2 ^ 149 ∧ r < 2139095040 ∧ fint n = pk (decide (n < 0)) r := by
  obtain ⟨r, hr⟩ := rep_mk 149 n.natAbs h
  have hlt : r < 2139095040 := fint_lt_inf h hr
  refine ⟨r, hr, hlt, ?_⟩
  obtain ⟨R, g, e⟩ := fint_is n
  have g := near_iff.2 g
  rw [← hr] at g
  have := g.unique (Near.self 23 r) (by omega) (by omega) rfl
  rw [e, this, show min r 2139095040 = r by omega]
theorem fint_V {n : Int} (h : n.natAbs ≤ 16777216) : rg (fint n) < 2139095040 ∧ sg (fint n) = decide (n < 0) ∧ U 23 (rg (fint n)) = n.natAbs * 2 ^ 149 ∧ V (fint n) = n * 2 ^ 149 := by
  obtain ⟨r, h1, h2, h3⟩ := fint_pk h
  have h4 : rg (fint n) = r := by rw [h3, rg_pk (by omega)]
  have h5 : sg (fint n) = decide (n < 0) := by rw [h3, sg_pk (by omega)]
  refine ⟨by omega, h5, by rw [h4, h1], ?_⟩
  unfold V
  rw [h4, h5, h1, pow_cast, Int.natCast_mul]
  generalize ((2 ^ 149 : Nat) : Int) = P
  by_cases c : n < 0
  · rw [decide_eq_true c, if_pos rfl, ← Int.neg_mul]
    congr 1; omega
  · rw [decide_eq_false c]
    simp only [Bool.false_eq_true, if_false]
    congr 1; omega
theorem fint_add {p q : Int} (hp : p.natAbs ≤ 4096) (hq : q.natAbs ≤ 4096) : fadd (fint p) (fint q) = fint (p + q) := by
  obtain ⟨p1, p2, p3, p4⟩ := fint_V (n := p) (by omega)
  obtain ⟨q1, q2, q3, q4⟩ := fint_V (n := q) (by omega)
  have h := fadd_fin p1 q1
  rw [p4, q4, ← Int.add_mul, p2, q2] at h
  have hP : (0 : Int) < 2 ^ 149 := by rw [pow_cast]; have := Nat.two_pow_pos 149; omega
  have hn : ((p + q) * 2 ^ 149).natAbs = (p + q).natAbs * 2 ^ 149 := by
    have := natAbs_mul_pow (p + q) 149
    rwa [← pow_cast] at this
  rw [hn] at h
  have hs : (if (p + q) * 2 ^ 149 = 0 then (decide (p < 0) && decide (q < 0)) else decide ((p + q) * 2 ^ 149 < 0)) = decide (p + q < 0) := by
    by_cases z : p + q = 0
    · rw [z, Int.zero_mul, if_pos rfl]
      rw [Bool.eq_iff_iff]; simp; omega
    · rw [if_neg (Int.mul_ne_zero z (Int.ne_of_gt hP)), decide_eq_decide, mul_neg_iff hP]
  rw [hs] at h
  exact h.unique (fint_is _) (sane_cq _ _ (by omega))
theorem fint_mul {p q : Int} (hp : p.natAbs ≤ 4096) (hq : q.natAbs ≤ 4096) : ∃ r s, fmul (fint p) (fint q) = pk s r ∧ fint (p * q) = pk (decide (p * q < 0)) r ∧ r < 2139095040 ∧ (p * q = 0 → r = 0) ∧ (p * q ≠ 0 → r ≠ 0 ∧ s = decide (p * q < 0)) := by
  obtain ⟨p1, p2, p3, p4⟩ := fint_V (n := p) (by omega)
  obtain ⟨q1, q2, q3, q4⟩ := fint_V (n := q) (by omega)
  have hm : (p * q).natAbs = p.natAbs * q.natAbs := Int.natAbs_mul ..
  have hb : p.natAbs * q.natAbs ≤ 4096 * 4096 := Nat.mul_le_mul hp hq
  obtain ⟨r, r1, r2, r3⟩ := fint_pk (n := p * q) (by omega)
  obtain ⟨R, g, e⟩ := fmul_fin p1 q1
  have g := near_iff.2 g
  rw [p3, q3] at g
  have hR : R = r := by
    refine g.unique (Near.self 23 r) (Nat.two_pow_pos 149) (by omega) ?_
    rw [r1, hm]; generalize 2 ^ 149 = P; grind
  refine ⟨r, _, by rw [e, hR, show min r 2139095040 = r by omega], r3, r2, ?_, ?_⟩
  · intro z
    rw [z, Int.natAbs_zero, Nat.zero_mul] at r1
    rcases Nat.eq_zero_or_pos r with c | c
    · exact c
    · have := U_pos (f := 23) c; omega
  · intro z
    constructor
    · intro c
      rw [c, U_zero] at r1
      have h1 : 0 < (p * q).natAbs := Int.natAbs_pos.2 z
      have := Nat.mul_pos h1 (Nat.two_pow_pos 149)
      omega
    · rw [p2, q2, Bool.eq_iff_iff]
      have hp0 : p ≠ 0 := fun h => z (by rw [h, Int.zero_mul])
      have hq0 : q ≠ 0 := fun h => z (by rw [h, Int.mul_zero])
      rcases Int.lt_trichotomy p 0 with c | c | c
      · rcases Int.lt_trichotomy q 0 with d | d | d
        · have := Int.mul_pos_of_neg_of_neg c d
          simp [c, d]; omega
        · omega
        · have := Int.mul_neg_of_neg_of_pos c d
          simp [c, this]; omega
      · omega
      · rcases Int.lt_trichotomy q 0 with d | d | d
        · have := Int.mul_neg_of_pos_of_neg c d
          simp [d, this]; omega
        · omega
        · have := Int.mul_pos c d
          simp; omega
end Lathe
