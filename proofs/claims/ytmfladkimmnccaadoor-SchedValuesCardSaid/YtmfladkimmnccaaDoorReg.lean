/- Contracts of two of the reference's functions. No condition. -/
import Derived.Test.YtmfladkimmnccaaDoorWal
import Derived.Test.YtmfladkimmnccaaDoorFpa
import Derived.Test.YtmfladkimmnccaaDoorProg
import Derived.Laws.BitsLemmas
import Derived.Deep.LoopGhost
namespace Go.Proofs.YtmfladkimmnccaaDoor.Ref
open Go.RowKit Lathe Go.Proofs.YtmfladkimmnccaaDoorW.PrintWords Go.Proofs.YtmfladkimmnccaaDoorW.PrintMore

theorem Of_a (a : Int) (w : World) (h0 : 0 ≤ a) (h1 : a ≤ 4294967295) (e : Int) (he : Go.bits .and .u64 (a / 8388608) 255 = e) (f : Int) (hf : Go.bits .and .u64 a 8388607 = f) (e0 : 0 ≤ e) (e1 : e ≤ 255) (h255 : e = 255) :
    Calls Tryd.prog 47 #[.int .i64 a] w fun en w' => en = .returned (.agg #[.bool (a / 2147483648 == 1), .int .u64 0, .int .i64 0, .bool (f == 0), .bool (f != 0)]) ∧ Below w.heap.size w w' := by
  subst h255
  go_enter Tryd.func47, Tryd.ntmps47
  go_wp2
  exact bodyPost_ret (v := .agg #[.bool (a / 2147483648 == 1), .int .u64 0, .int .i64 0, .bool (f == 0), .bool (f != 0)]) (by simp [results, Tryd.results47, go_sem]) rfl ⟨rfl, by repeat (first | exact Below.refl _ _ | apply below_alloc)⟩
theorem Of_b (a : Int) (w : World) (h0 : 0 ≤ a) (h1 : a ≤ 4294967295) (e : Int) (he : Go.bits .and .u64 (a / 8388608) 255 = e) (f : Int) (hf : Go.bits .and .u64 a 8388607 = f) (e0 : 0 ≤ e) (e1 : e ≤ 255) (hz : e = 0) :
    Calls Tryd.prog 47 #[.int .i64 a] w fun en w' => en = .returned (.agg #[.bool (a / 2147483648 == 1), .int .u64 f, .int .i64 (-149), .bool false, .bool false]) ∧ Below w.heap.size w w' := by
  subst hz
  go_enter Tryd.func47, Tryd.ntmps47
  go_wp2
  exact bodyPost_ret (v := .agg #[.bool (a / 2147483648 == 1), .int .u64 f, .int .i64 (-149), .bool false, .bool false]) (by simp [results, Tryd.results47, go_sem]) rfl ⟨rfl, by repeat (first | exact Below.refl _ _ | apply below_alloc)⟩
theorem Of_c (a : Int) (w : World) (h0 : 0 ≤ a) (h1 : a ≤ 4294967295) (e : Int) (he : Go.bits .and .u64 (a / 8388608) 255 = e) (f : Int) (hf : Go.bits .and .u64 a 8388607 = f) (e0 : 0 ≤ e) (e1 : e ≤ 255) (f0 : 0 ≤ f) (f1 : f ≤ 8388607) (hz : 0 < e) (h255 : e < 255) :
    Calls Tryd.prog 47 #[.int .i64 a] w fun en w' => en = .returned (.agg #[.bool (a / 2147483648 == 1), .int .u64 (8388608 + f), .int .i64 (e - 150), .bool false, .bool false]) ∧ Below w.heap.size w w' := by
  skip
  go_enter Tryd.func47, Tryd.ntmps47
  go_wp2
  exact bodyPost_ret (v := .agg #[.bool (a / 2147483648 == 1), .int .u64 (8388608 + f), .int .i64 (e - 150), .bool false, .bool false]) (by simp [results, Tryd.results47, go_sem]) rfl ⟨rfl, by repeat (first | exact Below.refl _ _ | apply below_alloc)⟩

theorem and_pow (a : Int) (h0 : 0 ≤ a) (h1 : a < 18446744073709551616) (k : Nat) (hk : k ≤ 64) : Go.bits .and .u64 a (2 ^ k - 1) = a % 2 ^ k := by
  refine bits_mask .u64 64 (by decide) (fun n h0 h1 => ?_) k hk a h0 h1
  rw [show IntKind.u64.wrap n = n % 18446744073709551616 by simp [IntKind.wrap, IntKind.bits, IntKind.signed]]
  omega

/-- A pattern's parts, as the reference has them. -/
def parts (a : Nat) : Bool × Int × Int × Bool × Bool :=
  if rg a < 2139095040 then (sg a, mg a, -149 + (kk a : Int), false, false) else (sg a, 0, 0, rg a == 2139095040, rg a != 2139095040)

theorem Of_any (a : Nat) (ha : a ≤ 4294967295) (w : World) :
    Calls Tryd.prog 47 #[.int .i64 a] w fun e w' => e = .returned (.agg #[.bool (parts a).1, .int .u64 (parts a).2.1, .int .i64 (parts a).2.2.1, .bool (parts a).2.2.2.1, .bool (parts a).2.2.2.2]) ∧ Below w.heap.size w w' := by
  have he : Go.bits .and .u64 ((a : Int) / 8388608) 255 = ((a / 8388608 % 256 : Nat) : Int) := by
    have := and_pow ((a : Int) / 8388608) (by omega) (by omega) 8 (by omega)
    simpa using this
  have hf : Go.bits .and .u64 (a : Int) 8388607 = ((a % 8388608 : Nat) : Int) := by
    have := and_pow (a : Int) (by omega) (by omega) 23 (by omega)
    simpa using this
  have hsg : ((a : Int) / 2147483648 == 1) = sg a := by
    unfold sg
    rw [Bool.eq_iff_iff]
    simp
    omega
  have h1 := Nat.mod_lt a (show 0 < 8388608 by omega)
  by_cases c1 : a / 8388608 % 256 = 255
  · have := Of_a a w (by omega) (by omega) _ he _ hf (by omega) (by omega) (by omega)
    rw [hsg] at this
    have e : parts a = (sg a, 0, 0, ((a % 8388608 : Nat) : Int) == 0, ((a % 8388608 : Nat) : Int) != 0) := by
      unfold parts rg
      rw [if_neg (by omega)]
      have e1 : (a % 2147483648 == 2139095040) = (((a % 8388608 : Nat) : Int) == 0) := by
        rw [Bool.eq_iff_iff]; simp; omega
      have e2 : (a % 2147483648 != 2139095040) = (((a % 8388608 : Nat) : Int) != 0) := by
        rw [bne, bne, e1]
      rw [e1, e2]
    rw [e]
    exact this
  · by_cases c2 : a / 8388608 % 256 = 0
    · have := Of_b a w (by omega) (by omega) _ he _ hf (by omega) (by omega) (by omega)
      rw [hsg] at this
      have e : parts a = (sg a, ((a % 8388608 : Nat) : Int), -149, false, false) := by
        unfold parts mg kk rg
        rw [if_pos (by omega), if_pos (by omega)]
        have : a % 2147483648 / 8388608 - 1 = 0 := by omega
        rw [this]
        simp
        omega
      rw [e]
      exact this
    · have := Of_c a w (by omega) (by omega) _ he _ hf (by omega) (by omega) (by omega) (by omega) (by omega) (by omega)
      rw [hsg] at this
      have e : parts a = (sg a, 8388608 + ((a % 8388608 : Nat) : Int), ((a / 8388608 % 256 : Nat) : Int) - 150, false, false) := by
        unfold parts mg kk rg
        rw [if_pos (by omega), if_neg (by omega)]
        simp only [Prod.mk.injEq, and_true, true_and]
        omega
      rw [e]
      exact this

/-- m divided by 2^s, to the nearest, of two as near the even one. -/
def hv (m s : Nat) : Nat := m / 2 ^ s + (if 2 ^ s < 2 * (m % 2 ^ s) ∨ 2 ^ s = 2 * (m % 2 ^ s) ∧ m / 2 ^ s % 2 = 1 then 1 else 0)
theorem hv_cut (m s : Nat) : Cut (hv m s) m s := Cut.of_div (Nat.two_pow_pos s) _ rfl

theorem halved_a (m s : Int) (w : World) (s1 : 64 < s) :
    Calls Tryd.prog 73 #[.int .u64 m, .int .i64 s] w fun e w' => e = .returned (.int .u64 0) ∧ w = w' := by
  go_enter Tryd.func73, Tryd.ntmps73
  go_wp2
  go_ret
  exact ⟨rfl, rfl⟩
theorem ret_u64 {a b : Int} (h : a = b) : Ending.returned (.int .u64 a) = .returned (.int .u64 b) := by rw [h]
theorem halved_b (m s Q P H R : Int) (w : World) (s0 : 1 ≤ s) (s1 : s < 64) (h1 : IntKind.u64.wrap (2 ^ s.toNat) = P) (h2 : IntKind.u64.wrap (2 ^ (s.toNat - 1)) = H) (h3 : IntKind.u64.wrap (P - 1) = P - 1)
    (h4 : Go.bits .and .u64 m (P - 1) = R) (h5 : m / 2 ^ s.toNat = Q) (q0 : 0 ≤ Q) (q1 : Q ≤ 9223372036854775807) :
    Calls Tryd.prog 73 #[.int .u64 m, .int .i64 s] w fun e w' => e = .returned (.int .u64 (Q + if H < R ∨ R = H ∧ Q % 2 = 1 then 1 else 0)) ∧ w = w' := by
  obtain ⟨c, hc⟩ : ∃ c, c = Q + if H < R ∨ R = H ∧ Q % 2 = 1 then 1 else 0 := ⟨_, rfl⟩
  rw [← hc]
  have HC := Aside0.mk hc
  clear hc
  go_enter Tryd.func73, Tryd.ntmps73
  go_wp2
  all_goals (go_ret; refine ⟨ret_u64 ?_, rfl⟩; rw [HC.out]; try simp only [beq_iff_eq, beq_eq_false_iff_ne] at *)
  all_goals (first | (rw [if_pos (by omega)]; done) | (rw [if_neg (by omega)]; omega))
theorem halved_c (m : Int) (w : World) :
    Calls Tryd.prog 73 #[.int .u64 m, .int .i64 64] w fun e w' => e = .returned (.int .u64 (if 9223372036854775808 < m then 1 else 0)) ∧ w = w' := by
  by_cases c : 9223372036854775808 < m
  · rw [if_pos c]
    go_enter Tryd.func73, Tryd.ntmps73
    go_wp2
    all_goals (go_ret; exact ⟨rfl, rfl⟩)
  · rw [if_neg c]
    go_enter Tryd.func73, Tryd.ntmps73
    go_wp2
    all_goals (go_ret; exact ⟨rfl, rfl⟩)
theorem wrap_u64_small {n : Int} (h0 : 0 ≤ n) (h1 : n < 18446744073709551616) : IntKind.u64.wrap n = n := by
  rw [show IntKind.u64.wrap n = n % 18446744073709551616 by simp [IntKind.wrap, IntKind.bits, IntKind.signed]]
  omega
theorem halved_any (m s : Nat) (w : World) (hm : m < 18446744073709551616) (hs : 1 ≤ s) :
    Calls Tryd.prog 73 #[.int .u64 m, .int .i64 s] w fun e w' => e = .returned (.int .u64 (hv m s : Nat)) ∧ w = w' := by
  rcases Nat.lt_trichotomy s 64 with c | c | c
  · have hp : 2 ^ s ≤ 2 ^ 63 := Nat.pow_le_pow_right (by omega) (by omega)
    have hp0 := Nat.two_pow_pos s
    have hh : 2 ^ s = 2 * 2 ^ (s - 1) := by rw [Nat.mul_comm, ← Nat.pow_succ]; congr 1; omega
    have hq : m / 2 ^ s ≤ m / 2 := Nat.div_le_div_left (by omega) (by omega)
    have hr := Nat.mod_lt m hp0
    have hq8 : m / 2 ^ s ≤ 9223372036854775807 := by omega
    have hq9 : ((m / 2 ^ s : Nat) : Int) ≤ 9223372036854775807 := Int.ofNat_le.2 hq8
    have c1 : ((2 : Int) ^ s) = ((2 ^ s : Nat) : Int) := by norm_cast
    have c2 : ((2 : Int) ^ (s - 1)) = ((2 ^ (s - 1) : Nat) : Int) := by norm_cast
    have := halved_b m s ((m / 2 ^ s : Nat) : Int) ((2 ^ s : Nat) : Int) ((2 ^ (s - 1) : Nat) : Int) ((m % 2 ^ s : Nat) : Int) w (by omega) (by omega)
      (by rw [Int.toNat_natCast, c1]; exact wrap_u64_small (by omega) (by omega)) (by rw [Int.toNat_natCast, c2]; exact wrap_u64_small (by omega) (by omega)) (wrap_u64_small (by omega) (by omega))
      (by rw [← c1, and_pow _ (by omega) (by omega) _ (by omega), c1]; norm_cast) (by rw [Int.toNat_natCast, c1]; norm_cast) (Int.natCast_nonneg _) hq9
    refine this.mono fun e w' h => ⟨?_, h.2⟩
    rw [h.1]
    refine ret_u64 ?_
    unfold hv
    rw [hh] at hr ⊢
    generalize 2 ^ (s - 1) = H at *
    generalize m % (2 * H) = R at *
    generalize m / (2 * H) = Q at *
    split <;> split <;> omega
  · subst c
    refine (halved_c m w).mono fun e w' h => ⟨?_, h.2⟩
    rw [h.1]
    refine ret_u64 ?_
    unfold hv
    have h1 : m / 2 ^ 64 = 0 := Nat.div_eq_of_lt (by omega)
    have h2 : m % 2 ^ 64 = m := Nat.mod_eq_of_lt (by omega)
    rw [h1, h2]
    split <;> split <;> omega
  · refine (halved_a m s w (by omega)).mono fun e w' h => ⟨?_, h.2⟩
    rw [h.1]
    refine ret_u64 ?_
    unfold hv
    have hp : 2 ^ 65 ≤ 2 ^ s := Nat.pow_le_pow_right (by omega) c
    have h1 : m / 2 ^ s = 0 := Nat.div_eq_of_lt (by omega)
    have h2 : m % 2 ^ s = m := Nat.mod_eq_of_lt (by omega)
    rw [h1, h2, if_neg (by omega)]
    rfl
theorem Of_given (a : Int) (w : World) (h0 : 0 ≤ a) (h1 : a ≤ 4294967295) {r1 : Bool} {r2 r3 : Int} {r4 r5 : Bool} (h : parts a.toNat = (r1, r2, r3, r4, r5)) :
    Calls Tryd.prog 47 #[.int .i64 a] w fun e w' => e = .returned (.agg #[.bool r1, .int .u64 r2, .int .i64 r3, .bool r4, .bool r5]) ∧ Below w.heap.size w w' := by
  obtain ⟨n, rfl⟩ := Int.eq_ofNat_of_zero_le h0
  have := Of_any n (by omega) w
  rw [Int.toNat_natCast] at h
  rw [h] at this
  exact this
theorem halved_given (m s : Int) (w : World) (h0 : 0 ≤ m) (h1 : m < 18446744073709551616) (h2 : 1 ≤ s) :
    Calls Tryd.prog 73 #[.int .u64 m, .int .i64 s] w fun e w' => e = .returned (.int .u64 (hv m.toNat s.toNat : Nat)) ∧ Drawn0 w w' := by
  obtain ⟨n, rfl⟩ := Int.eq_ofNat_of_zero_le h0
  obtain ⟨k, rfl⟩ := Int.eq_ofNat_of_zero_le (show 0 ≤ s by omega)
  exact (halved_any n k w (by omega) (by omega)).mono fun e w' h => ⟨h.1, h.2 ▸ Drawn0.refl _⟩
@[go_sem] theorem run_field_num0 (b0 : Bool) (u1 i2 : Int) (b3 b4 : Bool) (w : World) : (Instr.field 62 (.agg #[.bool b0, .int .u64 u1, .int .i64 i2, .bool b3, .bool b4]) 0).run Tryd.prog w = .ok (.bool b0) w := by kernel_rfl
@[go_sem] theorem run_field_num1 (b0 : Bool) (u1 i2 : Int) (b3 b4 : Bool) (w : World) : (Instr.field 62 (.agg #[.bool b0, .int .u64 u1, .int .i64 i2, .bool b3, .bool b4]) 1).run Tryd.prog w = .ok (.int .u64 u1) w := by kernel_rfl
@[go_sem] theorem run_field_num2 (b0 : Bool) (u1 i2 : Int) (b3 b4 : Bool) (w : World) : (Instr.field 62 (.agg #[.bool b0, .int .u64 u1, .int .i64 i2, .bool b3, .bool b4]) 2).run Tryd.prog w = .ok (.int .i64 i2) w := by kernel_rfl
@[go_sem] theorem run_field_num3 (b0 : Bool) (u1 i2 : Int) (b3 b4 : Bool) (w : World) : (Instr.field 62 (.agg #[.bool b0, .int .u64 u1, .int .i64 i2, .bool b3, .bool b4]) 3).run Tryd.prog w = .ok (.bool b3) w := by kernel_rfl
@[go_sem] theorem run_field_num4 (b0 : Bool) (u1 i2 : Int) (b3 b4 : Bool) (w : World) : (Instr.field 62 (.agg #[.bool b0, .int .u64 u1, .int .i64 i2, .bool b3, .bool b4]) 4).run Tryd.prog w = .ok (.bool b4) w := by kernel_rfl
end Go.Proofs.YtmfladkimmnccaaDoor.Ref
namespace Go.Proofs.YtmfladkimmnccaaDoor.Reg
open Go.RowKit Lathe Go.Proofs.YtmfladkimmnccaaDoorW.PrintWords Go.Proofs.YtmfladkimmnccaaDoorW.PrintMore Go.Proofs.YtmfladkimmnccaaDoor.Ref

set_option maxHeartbeats 2000000 in
set_option maxRecDepth 100000 in
theorem up_any (b0 : Bool) (m e : Int) (b3 b4 : Bool) (w : World) (h0 : 1 ≤ m) (h1 : m < 16777216) (he : -100000 ≤ e) (he' : e ≤ 100000) (t : Nat) (ht : t ≤ 100) (M : Int) (hM : M = m * 2 ^ t) (hM0 : 8388608 ≤ M) (hM1 : M < 16777216) :
    Calls Tryd.prog 78 #[.agg #[.bool b0, .int .u64 m, .int .i64 e, .bool b3, .bool b4]] w fun en w' => en = .returned (.agg #[.bool b0, .int .u64 M, .int .i64 (e - t), .bool b3, .bool b4]) ∧ Below w.heap.size w w' := by
  obtain ⟨E, hE⟩ : ∃ E : Int, E = e - t := ⟨_, rfl⟩
  rw [← hE]
  have HM := Aside0.mk hM
  have HE := Aside0.mk hE
  have HH := Aside0.mk (And.intro hM0 (And.intro hM1 ht))
  clear hM hE hM0 hM1 ht
  go_enter Tryd.func78, Tryd.ntmps78
  go_wp2
  go_loopg [] t (fun k wr => ∃ x y : Int, Aside0 (M = x * 2 ^ k) ∧ Aside0 (E = y - k) ∧ Aside0 (1 ≤ x ∧ x < 16777216 ∧ -100100 ≤ E ∧ y ≤ 100000 ∧ -200000 ≤ y) ∧ Aside0 ((w.alloc (.cells #[.bool b0, .int .u64 x, .int .i64 y, .bool b3, .bool b4] 62)).alloc (.cells #[.bool false, .int .u64 0, .int .i64 0, .bool false, .bool false] 62) = wr))
  case atStart => exact ⟨m, e, HM, HE, ⟨h0, h1, by have := HE.out; have := HH.out; omega, he', by omega⟩, ⟨rfl⟩⟩
  case round =>
    obtain ⟨x, y, X, Y, ⟨x0, x1, y0, y1, y2⟩, ⟨rfl⟩⟩ := hrel
    clear HM HE h0 h1 he he'
    by_cases c : x < 8388608
    · cases gk with
      | zero => exact absurd X.out (by have := HH.out; simp; omega)
      | succ k =>
        have X2 : Aside0 (M = x * 2 * 2 ^ k) := ⟨by rw [X.out, Int.pow_succ, Int.mul_assoc, Int.mul_comm 2]⟩
        have Y2 : Aside0 (E = y - 1 - k) := ⟨by have := Y.out; omega⟩
        clear X Y
        go_wp2
        go_roundg k
        case measure => omega
        case rel => exact ⟨x * 2, y - 1, X2, Y2, ⟨by omega, by omega, y0, by omega, by have := Y2.out; omega⟩, ⟨by simp⟩⟩
    · have hk : gk = 0 := by
        have := X.out
        have := HH.out
        cases gk with
        | zero => rfl
        | succ k =>
          exfalso
          have h5 : (1 : Int) ≤ 2 ^ k := Int.pow_pos (by omega)
          have h6 : x * 2 ^ (k + 1) = x * 2 * 2 ^ k := by rw [Int.pow_succ, Int.mul_assoc, Int.mul_comm 2]
          have h7 : x * 2 * 1 ≤ x * 2 * 2 ^ k := Int.mul_le_mul_of_nonneg_left h5 (by omega)
          omega
      subst hk
      have hx : M = x := by have := X.out; simpa using this
      have hy : E = y := by have := Y.out; simpa using this
      subst hx hy
      clear X Y HH
      go_wp2
      exact bodyPost_ret (v := .agg #[.bool b0, .int .u64 M, .int .i64 E, .bool b3, .bool b4]) (by simp [results, Tryd.results78, go_sem]) rfl ⟨rfl, by repeat (with_reducible first | exact Below.refl _ _ | apply below_alloc | apply pw_below_drewN | refine below_set ?_ (by omega))⟩
theorem mul_pow_cast (m t : Nat) : (m : Int) * 2 ^ t = ((m * 2 ^ t : Nat) : Int) := by norm_cast
theorem up_digits (m : Nat) (h0 : m ≠ 0) (h1 : m < 16777216) : 8388608 ≤ m * 2 ^ (23 - m.log2) ∧ m * 2 ^ (23 - m.log2) < 16777216 := by
  have l1 := Nat.log2_self_le h0
  have l2 : m < 2 ^ (m.log2 + 1) := Nat.lt_log2_self
  have lg : m.log2 < 24 := (Nat.log2_lt h0).2 (by omega)
  obtain ⟨z, hz⟩ : ∃ z, z + m.log2 = 23 := ⟨23 - m.log2, by omega⟩
  rw [show 23 - m.log2 = z by omega]
  constructor
  · have := Nat.mul_le_mul_right (2 ^ z) l1
    rw [← Nat.pow_add, Nat.add_comm, hz] at this
    omega
  · have := Nat.mul_lt_mul_of_pos_right l2 (Nat.two_pow_pos z)
    rw [← Nat.pow_add, show m.log2 + 1 + z = 24 by omega] at this
    omega
theorem up_given (b0 : Bool) (m e : Int) (b3 b4 : Bool) (w : World) (h0 : 1 ≤ m) (h1 : m < 16777216) (he : -100000 ≤ e) (he' : e ≤ 100000) :
    Calls Tryd.prog 78 #[.agg #[.bool b0, .int .u64 m, .int .i64 e, .bool b3, .bool b4]] w fun en w' => en = .returned (.agg #[.bool b0, .int .u64 (m * 2 ^ (23 - m.toNat.log2)), .int .i64 (e - ((23 - m.toNat.log2 : Nat) : Int)), .bool b3, .bool b4]) ∧ Below w.heap.size w w' := by
  obtain ⟨n, rfl⟩ := Int.eq_ofNat_of_zero_le (show 0 ≤ m by omega)
  have := up_digits n (by omega) (by omega)
  rw [Int.toNat_natCast]
  have e1 := mul_pow_cast n (23 - n.log2)
  exact up_any b0 n e b3 b4 w h0 h1 he he' (23 - n.log2) (by omega) _ rfl (by rw [e1]; omega) (by rw [e1]; omega)
end Go.Proofs.YtmfladkimmnccaaDoor.Reg
