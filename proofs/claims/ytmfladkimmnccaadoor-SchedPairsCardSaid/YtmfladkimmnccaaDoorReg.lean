/- The contract of the reference's up. No condition. -/
import Derived.Test.YtmfladkimmnccaaDoorRef
import Derived.Deep.LoopGhost
namespace Go.Proofs.YtmfladkimmnccaaDoor.Reg
open Go.RowKit Lathe Go.Proofs.YtmfladkimmnccaaDoorW.PrintWords Go.Proofs.YtmfladkimmnccaaDoorW.PrintMore Go.Proofs.YtmfladkimmnccaaDoor.Ref

set_option maxHeartbeats 2000000 in
set_option maxRecDepth 100000 in
theorem up_any (b0 : Bool) (m e : Int) (b3 b4 : Bool) (w : World) (h0 : 1 ≤ m) (h1 : m < 16777216) (he : -100000 ≤ e) (he' : e ≤ 100000) (t : Nat) (ht : t ≤ 100) (M : Int) (hM : M = m * 2 ^ t) (hM0 : 8388608 ≤ M) (hM1 : M < 16777216) :
    Calls Tryd.prog 78 #[.agg #[.bool b0, .int .u64 m, .int .i64 e, .bool b3, .bool b4]] w fun en w' => en = .returned (.agg #[.bool b0, .int .u64 M, .int .i64 (e - t), .bool b3, .bool b4]) ∧ Below w.heap.size w w' := by
  obtain ⟨E, hE⟩ : ∃ E : Int, E = e - t := ⟨_, rfl⟩
  rw [← hE]
  have HM := Aside0.mk hM
  have HE := Aside0.mk hE
  have HH := Aside0.mk (And.intro hM0 (And.intro hM1 ht))
  clear hM hE hM0 hM1 ht
  go_enter Tryd.func78, Tryd.ntmps78
  go_wp2
  go_loopg [] t (fun k wr => ∃ x y : Int, Aside0 (M = x * 2 ^ k) ∧ Aside0 (E = y - k) ∧ Aside0 (1 ≤ x ∧ x < 16777216 ∧ -100100 ≤ E ∧ y ≤ 100000 ∧ -200000 ≤ y) ∧ Aside0 ((w.alloc (.cells #[.bool b0, .int .u64 x, .int .i64 y, .bool b3, .bool b4] 62)).alloc (.cells #[.bool false, .int .u64 0, .int .i64 0, .bool false, .bool false] 62) = wr))
  case atStart => exact ⟨m, e, HM, HE, ⟨h0, h1, by have := HE.out; have := HH.out; omega, he', by omega⟩, ⟨rfl⟩⟩
  case round =>
    obtain ⟨x, y, X, Y, ⟨x0, x1, y0, y1, y2⟩, ⟨rfl⟩⟩ := hrel
    clear HM HE h0 h1 he he'
    by_cases c : x < 8388608
    · cases gk with
      | zero => exact absurd X.out (by have := HH.out; simp; omega)
      | succ k =>
        have X2 : Aside0 (M = x * 2 * 2 ^ k) := ⟨by rw [X.out, Int.pow_succ, Int.mul_assoc, Int.mul_comm 2]⟩
        have Y2 : Aside0 (E = y - 1 - k) := ⟨by have := Y.out; omega⟩
        clear X Y
        go_wp2
        go_roundg k
        case measure => omega
        case rel => exact ⟨x * 2, y - 1, X2, Y2, ⟨by omega, by omega, y0, by omega, by have := Y2.out; omega⟩, ⟨by simp⟩⟩
    · have hk : gk = 0 := by
        have := X.out
        have := HH.out
        cases gk with
        | zero => rfl
        | succ k =>
          exfalso
          have h5 : (1 : Int) ≤ 2 ^ k := Int.pow_pos (by omega)
          have h6 : x * 2 ^ (k + 1) = x * 2 * 2 ^ k := by rw [Int.pow_succ, Int.mul_assoc, Int.mul_comm 2]
          have h7 : x * 2 * 1 ≤ x * 2 * 2 ^ k := Int.mul_le_mul_of_nonneg_left h5 (by omega)
          omega
      subst hk
      have hx : M = x := by have := X.out; simpa using this
      have hy : E = y := by have := Y.out; simpa using this
      subst hx hy
      clear X Y HH
      go_wp2
      exact bodyPost_ret (v := .agg #[.bool b0, .int .u64 M, .int .i64 E, .bool b3, .bool b4]) (by simp [results, Tryd.results78, go_sem]) rfl ⟨rfl, by repeat (with_reducible first | exact Below.refl _ _ | apply below_alloc | apply pw_below_drewN | refine below_set ?_ (by omega))⟩
theorem mul_pow_cast (m t : Nat) : (m : Int) * 2 ^ t = ((m * 2 ^ t : Nat) : Int) := by norm_cast
theorem up_digits (m : Nat) (h0 : m ≠ 0) (h1 : m < 16777216) : 8388608 ≤ m * 2 ^ (23 - m.log2) ∧ m * 2 ^ (23 - m.log2) < 16777216 := by
  have l1 := Nat.log2_self_le h0
  have l2 : m < 2 ^ (m.log2 + 1) := Nat.lt_log2_self
  have lg : m.log2 < 24 := (Nat.log2_lt h0).2 (by omega)
  obtain ⟨z, hz⟩ : ∃ z, z + m.log2 = 23 := ⟨23 - m.log2, by omega⟩
  rw [show 23 - m.log2 = z by omega]
  constructor
  · have := Nat.mul_le_mul_right (2 ^ z) l1
    rw [← Nat.pow_add, Nat.add_comm, hz] at this
    omega
  · have := Nat.mul_lt_mul_of_pos_right l2 (Nat.two_pow_pos z)
    rw [← Nat.pow_add, show m.log2 + 1 + z = 24 by omega] at this
    omega
theorem up_given (b0 : Bool) (m e : Int) (b3 b4 : Bool) (w : World) (h0 : 1 ≤ m) (h1 : m < 16777216) (he : -100000 ≤ e) (he' : e ≤ 100000) :
    Calls Tryd.prog 78 #[.agg #[.bool b0, .int .u64 m, .int .i64 e, .bool b3, .bool b4]] w fun en w' => en = .returned (.agg #[.bool b0, .int .u64 (m * 2 ^ (23 - m.toNat.log2)), .int .i64 (e - ((23 - m.toNat.log2 : Nat) : Int)), .bool b3, .bool b4]) ∧ Below w.heap.size w w' := by
  obtain ⟨n, rfl⟩ := Int.eq_ofNat_of_zero_le (show 0 ≤ m by omega)
  have := up_digits n (by omega) (by omega)
  rw [Int.toNat_natCast]
  have e1 := mul_pow_cast n (23 - n.log2)
  exact up_any b0 n e b3 b4 w h0 h1 he he' (23 - n.log2) (by omega) _ rfl (by rw [e1]; omega) (by rw [e1]; omega)
end Go.Proofs.YtmfladkimmnccaaDoor.Reg
