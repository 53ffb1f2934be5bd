/- The functions of the program that a statement reaches, as plain functions, and that the machine's calls do what these say. No condition. (Printed by a program.) -/
import Derived.Test.YtmfladkimmnccaaDoorPWx0
import Derived.Test.YtmfladkimmnccaaDoorPVx8
import Derived.Test.YtmfladkimmnccaaDoorPVx10
import Derived.Test.YtmfladkimmnccaaDoorPVx13
import Derived.Test.YtmfladkimmnccaaDoorPVx14
import Derived.Test.YtmfladkimmnccaaDoorWal
namespace Go.Proofs.YtmfladkimmnccaaDoor.PW
open Go.RowKit Go.Proofs.YtmfladkimmnccaaDoorW.PrintWords Go.Proofs.YtmfladkimmnccaaDoorW.PrintLast Go.Proofs.YtmfladkimmnccaaDoorW.PrintMore Go.Proofs.YtmfladkimmnccaaDoor.Sht
attribute [local go_sem] max2_int min2_int max_two min_two max_three min_three max_four min_four   -- for this text's walks alone
set_option linter.unusedVariables false
set_option linter.unusedSimpArgs false

/-! ### latheref02_FromInt: function 59 -/
def latheref02_FromInt.f (k : Nat) (a0 : Int) : Option (Int) := if a0 < 0 then ((latheref02_Round.f k true (IntKind.u64.wrap ((IntKind.u64.wrap (wrap64 (-(wrap64 (a0 + 1))))) + 1)) 0).bind fun t430 => (some t430)) else ((latheref02_Round.f k false (IntKind.u64.wrap (a0)) 0).bind fun t431 => (some t431))
theorem latheref02_FromInt.mono : ∀ a0 k, LeO (latheref02_FromInt.f k a0) (latheref02_FromInt.f (k + 1) a0) := by
 intro a0 k
 unfold latheref02_FromInt.f
 repeat' with_reducible first
  | exact latheref02_Round.mono _ _ _ _
  | exact LeO.refl _
  | exact LeO.none _
  | refine LeO.ite ?_ ?_
  | refine LeO.bind ?_ (fun _ => ?_)
set_option maxHeartbeats 8000000 in
set_option maxRecDepth 100000 in
theorem latheref02_FromInt.calls (k : Nat) (a0 : Int) (r : Int) (w : World) (h : latheref02_FromInt.f k a0 = some r) :
  Calls Tryd.prog 59 #[.int .i64 a0] w fun e w' => e = .returned (.int .i64 r) ∧ Below w.heap.size w w' := by
 have HB := Aside0.mk (Below.refl w.heap.size w)
 have H : (if a0 < 0 then ((latheref02_Round.f k true (IntKind.u64.wrap ((IntKind.u64.wrap (wrap64 (-(wrap64 (a0 + 1))))) + 1)) 0).bind fun t430 => (some t430)) else ((latheref02_Round.f k false (IntKind.u64.wrap (a0)) 0).bind fun t431 => (some t431))) = some r := h
 clear h
 by_cases c2 : a0 < 0
 ·rw [if_pos c2] at H
  have c2b0 := decide_eq_true c2
  clear c2
  replace H := Option.bind_eq_some_iff.mp H
  obtain ⟨t430, A30, H⟩ := H
  have A3 := Aside0.mk A30
  clear A30
  obtain rfl := Option.some.inj H
  go_enter Tryd.func59, Tryd.ntmps59
  go_wp2_with (first | ((with_reducible refine gate_callee (f := 52) rfl ?_); refine gC (some 10) Tryd.func52 (latheref02_Round.calls k true (IntKind.u64.wrap ((IntKind.u64.wrap (wrap64 (-(wrap64 (a0 + 1))))) + 1)) 0 t430 _ A3.out) (fun w4 hb => ?_); clear A3; replace HB := bst hb; (try clear hb)))
  go_ret
  exact fin_
 rw [if_neg c2] at H
 have c2b0 := decide_eq_false c2
 clear c2
 replace H := Option.bind_eq_some_iff.mp H
 obtain ⟨t431, A50, H⟩ := H
 have A5 := Aside0.mk A50
 clear A50
 obtain rfl := Option.some.inj H
 go_enter Tryd.func59, Tryd.ntmps59
 go_wp2_with (first | ((with_reducible refine gate_callee (f := 52) rfl ?_); refine gC (some 13) Tryd.func52 (latheref02_Round.calls k false (IntKind.u64.wrap (a0)) 0 t431 _ A5.out) (fun w6 hb => ?_); clear A5; replace HB := bst hb; (try clear hb)))
 go_ret
 exact fin_

/-! ### latheref02_Power: function 60 -/
def latheref02_Power.l0 : Nat → Int → Int → Int → Int → Option (Int)
 | 0, _, _, _, _ => none
 | k + 1, x0, x1, x5, x6 => if x6 ≥ 0 then ((latheref02_Mul.f k x5 x5).bind fun t434 => (if 0 ≤ (IntKind.u64.wrap (x6)) then (if (Go.bits .and .i64 (shr .i64 x1 (IntKind.u64.wrap (x6))) 1) = 1 then ((latheref02_Mul.f k t434 x0).bind fun t435 => (latheref02_Power.l0 k x0 x1 t435 (wrap64 (x6 - 1)))) else (latheref02_Power.l0 k x0 x1 t434 (wrap64 (x6 - 1)))) else (none))) else (some x5)
def latheref02_Power.f (k : Nat) (a0 : Int) (a1 : Int) : Option (Int) := if a1 < 1 then (some 1065353216) else ((latheref02_Canon.f a0).bind fun t432 => ((latheref02_length.f k (IntKind.u64.wrap (a1))).bind fun t433 => (latheref02_Power.l0 k a0 a1 t432 (wrap64 (t433 - 2)))))
theorem latheref02_Power.mono_l : ∀ k, (∀ y0 y1 y2 y3, LeO (latheref02_Power.l0 k y0 y1 y2 y3) (latheref02_Power.l0 (k + 1) y0 y1 y2 y3))
 | 0 => fun _ _ _ _ r h => by simp [latheref02_Power.l0] at h
 | k + 1 => by
  have ih0 := latheref02_Power.mono_l k
  ·intro y0 y1 y2 y3
   unfold latheref02_Power.l0
   repeat' with_reducible first
    | exact ih0 _ _ _ _
    | exact latheref02_Mul.mono _ _ _
    | exact latheref02_length.mono _ _
    | exact LeO.refl _
    | exact LeO.none _
    | refine LeO.ite ?_ ?_
    | refine LeO.bind ?_ (fun _ => ?_)
theorem latheref02_Power.mono : ∀ a0 a1 k, LeO (latheref02_Power.f k a0 a1) (latheref02_Power.f (k + 1) a0 a1) := by
 intro a0 a1 k
 have ih0 := latheref02_Power.mono_l k
 unfold latheref02_Power.f
 repeat' with_reducible first
  | exact ih0 _ _ _ _
  | exact latheref02_Mul.mono _ _ _
  | exact latheref02_length.mono _ _
  | exact LeO.refl _
  | exact LeO.none _
  | refine LeO.ite ?_ ?_
  | refine LeO.bind ?_ (fun _ => ?_)
set_option maxHeartbeats 8000000 in
set_option maxRecDepth 100000 in
theorem latheref02_Power.calls (k : Nat) (a0 : Int) (a1 : Int) (r : Int) (w : World) (h : latheref02_Power.f k a0 a1 = some r) :
  Calls Tryd.prog 60 #[.int .i64 a0, .int .i64 a1] w fun e w' => e = .returned (.int .i64 r) ∧ Below w.heap.size w w' := by
 have HB := Aside0.mk (Below.refl w.heap.size w)
 have H : (if a1 < 1 then (some 1065353216) else ((latheref02_Canon.f a0).bind fun t432 => ((latheref02_length.f k (IntKind.u64.wrap (a1))).bind fun t433 => (latheref02_Power.l0 k a0 a1 t432 (wrap64 (t433 - 2)))))) = some r := h
 clear h
 by_cases c3 : a1 < 1
 ·rw [if_pos c3] at H
  have c3b0 := decide_eq_true c3
  clear c3
  obtain rfl := Option.some.inj H
  go_enter Tryd.func60, Tryd.ntmps60
  go_wp2
  go_ret
  exact fin_
 rw [if_neg c3] at H
 have c3b0 := decide_eq_false c3
 clear c3
 replace H := Option.bind_eq_some_iff.mp H
 obtain ⟨t432, A40, H⟩ := H
 have A4 := Aside0.mk A40
 clear A40
 replace H := Option.bind_eq_some_iff.mp H
 obtain ⟨t433, A50, H⟩ := H
 have A5 := Aside0.mk A50
 clear A50
 have H' := Aside0.mk H
 clear H
 go_enter Tryd.func60, Tryd.ntmps60
 go_wp2_with (first | ((with_reducible refine gate_callee (f := 45) rfl ?_); refine gC (some 10) Tryd.func45 (latheref02_Canon.calls a0 t432 _ A4.out) (fun w6 hb => ?_); clear A4; replace HB := bst hb; (try clear hb)) | ((with_reducible refine gate_callee (f := 72) rfl ?_); refine gL (some 13) Tryd.func72 #[.int .u64 (IntKind.u64.wrap (a1))] ?_; (with_reducible refine (latheref02_length.calls k (IntKind.u64.wrap (a1)) t433 _ A5.out).mono ?_); clear A5; rintro e w' ⟨rfl, ⟨nd, rfl⟩⟩; refine ⟨_, rfl, ?_⟩))
 go_loopg [5, 6] k (fun kq v5 v6 w' => ∃ (x5_1 : Int) (x6_1 : Int), v5 = .int .i64 x5_1 ∧ v6 = .int .i64 x6_1 ∧ Aside0 (latheref02_Power.l0 kq a0 a1 x5_1 x6_1 = some r) ∧ Aside0 (kq ≤ k) ∧ Aside0 (Below w.heap.size w w'))
 case atStart => exact ⟨(t432), (wrap64 (t433 - 2)), id_, id_, H', ⟨Nat.le_refl _⟩, ⟨hbb⟩⟩
 case round =>
  clear H'
  clear c3b0
  obtain ⟨x5_1, x6_1, rfl, rfl, HA, HK1, HB⟩ := hrel
  cases gk with
  | zero => exact absurd HA.out (by simp [latheref02_Power.l0])
  | succ k1 =>
   have H := HA.out
   clear HA
   simp only [latheref02_Power.l0] at H
   by_cases c7 : x6_1 ≥ 0
   rotate_left
   ·rw [if_neg c7] at H
    have c7b0 : decide (0 ≤ x6_1) = false := decide_eq_false c7
    clear c7
    obtain rfl := Option.some.inj H
    go_wp2
    go_ret
    exact fin_
   rw [if_pos c7] at H
   have c7b0 : decide (0 ≤ x6_1) = true := decide_eq_true c7
   clear c7
   replace H := Option.bind_eq_some_iff.mp H
   obtain ⟨t434, A80, H⟩ := H
   have A8 := Aside0.mk A80
   clear A80
   obtain ⟨ji9, hji9⟩ : ∃ j_ : Int, (IntKind.u64.wrap (x6_1)) = j_ := ⟨_, rfl⟩
   first | rw [hji9] at H | simp only [hji9] at H
   by_cases c10 : 0 ≤ (ji9)
   rotate_left
   ·rw [if_neg c10] at H
    exact absurd H (by simp)
   rw [if_pos c10] at H
   have c10b0 := eq_true c10
   have c10b1 : decide (0 ≤ (ji9)) = true := decide_eq_true c10
   clear c10
   obtain ⟨ji11, hji11⟩ : ∃ j_ : Int, (shr .i64 a1 (ji9)) = j_ := ⟨_, rfl⟩
   first | rw [hji11] at H | simp only [hji11] at H
   have hji11_ : (a1 / 2 ^ min (ji9).toNat 64) = ji11 := hji11
   have hji11z : (ji9) ≤ 64 → (a1 / 2 ^ (ji9).toNat) = ji11 := shr_small hji11
   by_cases c12 : (Go.bits .and .i64 (ji11) 1) = 1
   rotate_left
   ·rw [if_neg c12] at H
    have c12b0 : ((Go.bits .and .i64 (ji11) 1) == 1) = false := beq_eq_false_iff_ne.mpr c12
    have c12b1 : ((Go.bits .and .i64 (ji11) 1) != 1) = true := bne_iff_ne.mpr c12
    have H' := Aside0.mk H
    clear H
    go_wp2_with (first | ((with_reducible refine gate_callee (f := 27) rfl ?_); refine gC (some 21) Tryd.func27 (latheref02_Mul.calls k1 x5_1 x5_1 t434 _ A8.out) (fun w16 hb => ?_); clear A8; replace HB := bst hb; (try clear hb)))
    go_roundg k1
    case measure => have := HK1.out; omega
    case rel => exact ⟨(t434), (wrap64 (x6_1 - 1)), id_, id_, (by first | exact H' | (rw [hji11]; exact H') | (rw [hji9]; exact H')), ⟨by have := HK1.out; omega⟩, ⟨hbb⟩⟩
   rw [if_pos c12] at H
   have c12b0 : ((Go.bits .and .i64 (ji11) 1) == 1) = true := beq_iff_eq.mpr c12
   have c12b1 : ((Go.bits .and .i64 (ji11) 1) != 1) = false := bne_eq_false_iff_eq.mpr c12
   clear c12
   replace H := Option.bind_eq_some_iff.mp H
   obtain ⟨t435, A130, H⟩ := H
   have A13 := Aside0.mk A130
   clear A130
   have H' := Aside0.mk H
   clear H
   go_wp2_with (first | ((with_reducible refine gate_callee (f := 27) rfl ?_); refine gC (some 21) Tryd.func27 (latheref02_Mul.calls k1 x5_1 x5_1 t434 _ A8.out) (fun w14 hb => ?_); clear A8; replace HB := bst hb; (try clear hb)) | ((with_reducible refine gate_callee (f := 27) rfl ?_); refine gC (some 30) Tryd.func27 (latheref02_Mul.calls k1 t434 a0 t435 _ A13.out) (fun w15 hb => ?_); clear A13; replace HB := bst hb; (try clear hb)))
   go_roundg k1
   case measure => have := HK1.out; omega
   case rel => exact ⟨(t435), (wrap64 (x6_1 - 1)), id_, id_, (by first | exact H' | (rw [hji11]; exact H') | (rw [hji9]; exact H')), ⟨by have := HK1.out; omega⟩, ⟨hbb⟩⟩

end Go.Proofs.YtmfladkimmnccaaDoor.PW
