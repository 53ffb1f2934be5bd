/- The functions of the program that a statement reaches, as plain functions, and that the machine's calls do what these say. No condition. (Printed by a program.) -/
import Derived.Test.YtmfladkimmnccaaDoorPWx0
import Derived.Test.YtmfladkimmnccaaDoorPVx5
import Derived.Test.YtmfladkimmnccaaDoorPVx6
import Derived.Test.YtmfladkimmnccaaDoorPVx8
import Derived.Test.YtmfladkimmnccaaDoorPVx11
import Derived.Test.YtmfladkimmnccaaDoorPVx13
import Derived.Test.YtmfladkimmnccaaDoorWal
namespace Go.Proofs.YtmfladkimmnccaaDoor.PW
open Go.RowKit Go.Proofs.YtmfladkimmnccaaDoorW.PrintWords Go.Proofs.YtmfladkimmnccaaDoorW.PrintLast Go.Proofs.YtmfladkimmnccaaDoorW.PrintMore Go.Proofs.YtmfladkimmnccaaDoor.Sht
attribute [local go_sem] max2_int min2_int max_two min_two max_three min_three max_four min_four   -- for this text's walks alone
set_option linter.unusedVariables false
set_option linter.unusedSimpArgs false

/-! ### latheref02_Min: function 43 -/
def latheref02_Min.f (a0 : Int) (a1 : Int) : Option (Int) := (latheref02_Of.f a0).bind fun bt357 => ((latheref02_Of.f a1).bind fun bt362 => ((latheref02_nan.f bt357.1 bt357.2.1 bt357.2.2.1 bt357.2.2.2.1 bt357.2.2.2.2 bt362.1 bt362.2.1 bt362.2.2.1 bt362.2.2.2.1 bt362.2.2.2.2).bind fun t367 => (if t367 = true then (some 2143289344) else ((latheref02_key.f a1).bind fun t368 => ((latheref02_key.f a0).bind fun t369 => (if t368 < t369 then (some a1) else (some a0)))))))
set_option maxHeartbeats 8000000 in
set_option maxRecDepth 100000 in
theorem latheref02_Min.calls (a0 : Int) (a1 : Int) (r : Int) (w : World) (h : latheref02_Min.f a0 a1 = some r) :
  Calls Tryd.prog 43 #[.int .i64 a0, .int .i64 a1] w fun e w' => e = .returned (.int .i64 r) ∧ Below w.heap.size w w' := by
 have HB := Aside0.mk (Below.refl w.heap.size w)
 have H : ((latheref02_Of.f a0).bind fun bt357 => ((latheref02_Of.f a1).bind fun bt362 => ((latheref02_nan.f bt357.1 bt357.2.1 bt357.2.2.1 bt357.2.2.2.1 bt357.2.2.2.2 bt362.1 bt362.2.1 bt362.2.2.1 bt362.2.2.2.1 bt362.2.2.2.2).bind fun t367 => (if t367 = true then (some 2143289344) else ((latheref02_key.f a1).bind fun t368 => ((latheref02_key.f a0).bind fun t369 => (if t368 < t369 then (some a1) else (some a0)))))))) = some r := h
 clear h
 replace H := Option.bind_eq_some_iff.mp H
 obtain ⟨⟨t357, t358, t359, t360, t361⟩, A30, H⟩ := H
 have A3 := Aside0.mk A30
 clear A30
 replace H := Option.bind_eq_some_iff.mp H
 obtain ⟨⟨t362, t363, t364, t365, t366⟩, A40, H⟩ := H
 have A4 := Aside0.mk A40
 clear A40
 replace H := Option.bind_eq_some_iff.mp H
 obtain ⟨t367, A50, H⟩ := H
 have A5 := Aside0.mk A50
 clear A50
 by_cases c6 : t367 = true
 ·subst c6
  rw [if_pos rfl] at H
  obtain rfl := Option.some.inj H
  go_enter Tryd.func43, Tryd.ntmps43
  go_wp2_with (first | ((with_reducible refine gate_callee (f := 47) rfl ?_); refine gC (some 6) Tryd.func47 (latheref02_Of.calls a0 t357 t358 t359 t360 t361 _ A3.out) (fun w7 hb => ?_); clear A3; replace HB := bst hb; (try clear hb)) | ((with_reducible refine gate_callee (f := 47) rfl ?_); refine gC (some 8) Tryd.func47 (latheref02_Of.calls a1 t362 t363 t364 t365 t366 _ A4.out) (fun w8 hb => ?_); clear A4; replace HB := bst hb; (try clear hb)) | ((with_reducible refine gate_callee (f := 46) rfl ?_); refine gC (some 9) Tryd.func46 (latheref02_nan.calls t357 t358 t359 t360 t361 t362 t363 t364 t365 t366 true _ A5.out) (fun w9 hb => ?_); clear A5; replace HB := bst hb; (try clear hb)))
  go_ret
  exact fin_
 replace c6 := Bool.eq_false_iff.mpr c6
 subst c6
 rw [if_neg (show ¬ (false = true) by decide)] at H
 replace H := Option.bind_eq_some_iff.mp H
 obtain ⟨t368, A100, H⟩ := H
 have A10 := Aside0.mk A100
 clear A100
 replace H := Option.bind_eq_some_iff.mp H
 obtain ⟨t369, A110, H⟩ := H
 have A11 := Aside0.mk A110
 clear A110
 by_cases c12 : t368 < t369
 ·rw [if_pos c12] at H
  have c12b0 := decide_eq_true c12
  clear c12
  obtain rfl := Option.some.inj H
  go_enter Tryd.func43, Tryd.ntmps43
  go_wp2_with (first | ((with_reducible refine gate_callee (f := 47) rfl ?_); refine gC (some 6) Tryd.func47 (latheref02_Of.calls a0 t357 t358 t359 t360 t361 _ A3.out) (fun w13 hb => ?_); clear A3; replace HB := bst hb; (try clear hb)) | ((with_reducible refine gate_callee (f := 47) rfl ?_); refine gC (some 8) Tryd.func47 (latheref02_Of.calls a1 t362 t363 t364 t365 t366 _ A4.out) (fun w14 hb => ?_); clear A4; replace HB := bst hb; (try clear hb)) | ((with_reducible refine gate_callee (f := 46) rfl ?_); refine gC (some 9) Tryd.func46 (latheref02_nan.calls t357 t358 t359 t360 t361 t362 t363 t364 t365 t366 false _ A5.out) (fun w15 hb => ?_); clear A5; replace HB := bst hb; (try clear hb)) | ((with_reducible refine gate_callee (f := 49) rfl ?_); refine gL (some 11) Tryd.func49 #[.int .i64 a1] ?_; (with_reducible refine (latheref02_key.calls a1 t368 _ A10.out).mono ?_); clear A10; rintro e w' ⟨rfl, ⟨nd, rfl⟩⟩; refine ⟨_, rfl, ?_⟩) | ((with_reducible refine gate_callee (f := 49) rfl ?_); refine gL (some 13) Tryd.func49 #[.int .i64 a0] ?_; (with_reducible refine (latheref02_key.calls a0 t369 _ A11.out).mono ?_); clear A11; rintro e w' ⟨rfl, ⟨nd, rfl⟩⟩; refine ⟨_, rfl, ?_⟩))
  go_ret
  exact fin_
 rw [if_neg c12] at H
 have c12b0 := decide_eq_false c12
 clear c12
 obtain rfl := Option.some.inj H
 go_enter Tryd.func43, Tryd.ntmps43
 go_wp2_with (first | ((with_reducible refine gate_callee (f := 47) rfl ?_); refine gC (some 6) Tryd.func47 (latheref02_Of.calls a0 t357 t358 t359 t360 t361 _ A3.out) (fun w16 hb => ?_); clear A3; replace HB := bst hb; (try clear hb)) | ((with_reducible refine gate_callee (f := 47) rfl ?_); refine gC (some 8) Tryd.func47 (latheref02_Of.calls a1 t362 t363 t364 t365 t366 _ A4.out) (fun w17 hb => ?_); clear A4; replace HB := bst hb; (try clear hb)) | ((with_reducible refine gate_callee (f := 46) rfl ?_); refine gC (some 9) Tryd.func46 (latheref02_nan.calls t357 t358 t359 t360 t361 t362 t363 t364 t365 t366 false _ A5.out) (fun w18 hb => ?_); clear A5; replace HB := bst hb; (try clear hb)) | ((with_reducible refine gate_callee (f := 49) rfl ?_); refine gL (some 11) Tryd.func49 #[.int .i64 a1] ?_; (with_reducible refine (latheref02_key.calls a1 t368 _ A10.out).mono ?_); clear A10; rintro e w' ⟨rfl, ⟨nd, rfl⟩⟩; refine ⟨_, rfl, ?_⟩) | ((with_reducible refine gate_callee (f := 49) rfl ?_); refine gL (some 13) Tryd.func49 #[.int .i64 a0] ?_; (with_reducible refine (latheref02_key.calls a0 t369 _ A11.out).mono ?_); clear A11; rintro e w' ⟨rfl, ⟨nd, rfl⟩⟩; refine ⟨_, rfl, ?_⟩))
 go_ret
 exact fin_

/-! ### latheref02_Max: function 44 -/
def latheref02_Max.f (a0 : Int) (a1 : Int) : Option (Int) := (latheref02_Of.f a0).bind fun bt370 => ((latheref02_Of.f a1).bind fun bt375 => ((latheref02_nan.f bt370.1 bt370.2.1 bt370.2.2.1 bt370.2.2.2.1 bt370.2.2.2.2 bt375.1 bt375.2.1 bt375.2.2.1 bt375.2.2.2.1 bt375.2.2.2.2).bind fun t380 => (if t380 = true then (some 2143289344) else ((latheref02_key.f a1).bind fun t381 => ((latheref02_key.f a0).bind fun t382 => (if t381 > t382 then (some a1) else (some a0)))))))
set_option maxHeartbeats 8000000 in
set_option maxRecDepth 100000 in
theorem latheref02_Max.calls (a0 : Int) (a1 : Int) (r : Int) (w : World) (h : latheref02_Max.f a0 a1 = some r) :
  Calls Tryd.prog 44 #[.int .i64 a0, .int .i64 a1] w fun e w' => e = .returned (.int .i64 r) ∧ Below w.heap.size w w' := by
 have HB := Aside0.mk (Below.refl w.heap.size w)
 have H : ((latheref02_Of.f a0).bind fun bt370 => ((latheref02_Of.f a1).bind fun bt375 => ((latheref02_nan.f bt370.1 bt370.2.1 bt370.2.2.1 bt370.2.2.2.1 bt370.2.2.2.2 bt375.1 bt375.2.1 bt375.2.2.1 bt375.2.2.2.1 bt375.2.2.2.2).bind fun t380 => (if t380 = true then (some 2143289344) else ((latheref02_key.f a1).bind fun t381 => ((latheref02_key.f a0).bind fun t382 => (if t381 > t382 then (some a1) else (some a0)))))))) = some r := h
 clear h
 replace H := Option.bind_eq_some_iff.mp H
 obtain ⟨⟨t370, t371, t372, t373, t374⟩, A30, H⟩ := H
 have A3 := Aside0.mk A30
 clear A30
 replace H := Option.bind_eq_some_iff.mp H
 obtain ⟨⟨t375, t376, t377, t378, t379⟩, A40, H⟩ := H
 have A4 := Aside0.mk A40
 clear A40
 replace H := Option.bind_eq_some_iff.mp H
 obtain ⟨t380, A50, H⟩ := H
 have A5 := Aside0.mk A50
 clear A50
 by_cases c6 : t380 = true
 ·subst c6
  rw [if_pos rfl] at H
  obtain rfl := Option.some.inj H
  go_enter Tryd.func44, Tryd.ntmps44
  go_wp2_with (first | ((with_reducible refine gate_callee (f := 47) rfl ?_); refine gC (some 6) Tryd.func47 (latheref02_Of.calls a0 t370 t371 t372 t373 t374 _ A3.out) (fun w7 hb => ?_); clear A3; replace HB := bst hb; (try clear hb)) | ((with_reducible refine gate_callee (f := 47) rfl ?_); refine gC (some 8) Tryd.func47 (latheref02_Of.calls a1 t375 t376 t377 t378 t379 _ A4.out) (fun w8 hb => ?_); clear A4; replace HB := bst hb; (try clear hb)) | ((with_reducible refine gate_callee (f := 46) rfl ?_); refine gC (some 9) Tryd.func46 (latheref02_nan.calls t370 t371 t372 t373 t374 t375 t376 t377 t378 t379 true _ A5.out) (fun w9 hb => ?_); clear A5; replace HB := bst hb; (try clear hb)))
  go_ret
  exact fin_
 replace c6 := Bool.eq_false_iff.mpr c6
 subst c6
 rw [if_neg (show ¬ (false = true) by decide)] at H
 replace H := Option.bind_eq_some_iff.mp H
 obtain ⟨t381, A100, H⟩ := H
 have A10 := Aside0.mk A100
 clear A100
 replace H := Option.bind_eq_some_iff.mp H
 obtain ⟨t382, A110, H⟩ := H
 have A11 := Aside0.mk A110
 clear A110
 by_cases c12 : t381 > t382
 ·rw [if_pos c12] at H
  have c12b0 : decide (t382 < t381) = true := decide_eq_true c12
  clear c12
  obtain rfl := Option.some.inj H
  go_enter Tryd.func44, Tryd.ntmps44
  go_wp2_with (first | ((with_reducible refine gate_callee (f := 47) rfl ?_); refine gC (some 6) Tryd.func47 (latheref02_Of.calls a0 t370 t371 t372 t373 t374 _ A3.out) (fun w13 hb => ?_); clear A3; replace HB := bst hb; (try clear hb)) | ((with_reducible refine gate_callee (f := 47) rfl ?_); refine gC (some 8) Tryd.func47 (latheref02_Of.calls a1 t375 t376 t377 t378 t379 _ A4.out) (fun w14 hb => ?_); clear A4; replace HB := bst hb; (try clear hb)) | ((with_reducible refine gate_callee (f := 46) rfl ?_); refine gC (some 9) Tryd.func46 (latheref02_nan.calls t370 t371 t372 t373 t374 t375 t376 t377 t378 t379 false _ A5.out) (fun w15 hb => ?_); clear A5; replace HB := bst hb; (try clear hb)) | ((with_reducible refine gate_callee (f := 49) rfl ?_); refine gL (some 11) Tryd.func49 #[.int .i64 a1] ?_; (with_reducible refine (latheref02_key.calls a1 t381 _ A10.out).mono ?_); clear A10; rintro e w' ⟨rfl, ⟨nd, rfl⟩⟩; refine ⟨_, rfl, ?_⟩) | ((with_reducible refine gate_callee (f := 49) rfl ?_); refine gL (some 13) Tryd.func49 #[.int .i64 a0] ?_; (with_reducible refine (latheref02_key.calls a0 t382 _ A11.out).mono ?_); clear A11; rintro e w' ⟨rfl, ⟨nd, rfl⟩⟩; refine ⟨_, rfl, ?_⟩))
  go_ret
  exact fin_
 rw [if_neg c12] at H
 have c12b0 : decide (t382 < t381) = false := decide_eq_false c12
 clear c12
 obtain rfl := Option.some.inj H
 go_enter Tryd.func44, Tryd.ntmps44
 go_wp2_with (first | ((with_reducible refine gate_callee (f := 47) rfl ?_); refine gC (some 6) Tryd.func47 (latheref02_Of.calls a0 t370 t371 t372 t373 t374 _ A3.out) (fun w16 hb => ?_); clear A3; replace HB := bst hb; (try clear hb)) | ((with_reducible refine gate_callee (f := 47) rfl ?_); refine gC (some 8) Tryd.func47 (latheref02_Of.calls a1 t375 t376 t377 t378 t379 _ A4.out) (fun w17 hb => ?_); clear A4; replace HB := bst hb; (try clear hb)) | ((with_reducible refine gate_callee (f := 46) rfl ?_); refine gC (some 9) Tryd.func46 (latheref02_nan.calls t370 t371 t372 t373 t374 t375 t376 t377 t378 t379 false _ A5.out) (fun w18 hb => ?_); clear A5; replace HB := bst hb; (try clear hb)) | ((with_reducible refine gate_callee (f := 49) rfl ?_); refine gL (some 11) Tryd.func49 #[.int .i64 a1] ?_; (with_reducible refine (latheref02_key.calls a1 t381 _ A10.out).mono ?_); clear A10; rintro e w' ⟨rfl, ⟨nd, rfl⟩⟩; refine ⟨_, rfl, ?_⟩) | ((with_reducible refine gate_callee (f := 49) rfl ?_); refine gL (some 13) Tryd.func49 #[.int .i64 a0] ?_; (with_reducible refine (latheref02_key.calls a0 t382 _ A11.out).mono ?_); clear A11; rintro e w' ⟨rfl, ⟨nd, rfl⟩⟩; refine ⟨_, rfl, ?_⟩))
 go_ret
 exact fin_

/-! ### latheref02_Canon: function 45 -/
def latheref02_Canon.f (a0 : Int) : Option (Int) := (latheref02_Of.f a0).bind fun bt383 => (if bt383.2.2.2.2 = true then (some 2143289344) else (some a0))
set_option maxHeartbeats 8000000 in
set_option maxRecDepth 100000 in
theorem latheref02_Canon.calls (a0 : Int) (r : Int) (w : World) (h : latheref02_Canon.f a0 = some r) :
  Calls Tryd.prog 45 #[.int .i64 a0] w fun e w' => e = .returned (.int .i64 r) ∧ Below w.heap.size w w' := by
 have hu62 := Tryd.underlying62
 have HB := Aside0.mk (Below.refl w.heap.size w)
 have H : ((latheref02_Of.f a0).bind fun bt383 => (if bt383.2.2.2.2 = true then (some 2143289344) else (some a0))) = some r := h
 clear h
 replace H := Option.bind_eq_some_iff.mp H
 obtain ⟨⟨t383, t384, t385, t386, t387⟩, A20, H⟩ := H
 have A2 := Aside0.mk A20
 clear A20
 by_cases c3 : t387 = true
 ·subst c3
  rw [if_pos rfl] at H
  obtain rfl := Option.some.inj H
  go_enter Tryd.func45, Tryd.ntmps45
  go_wp2_with (first | ((with_reducible refine gate_callee (f := 47) rfl ?_); refine gC (some 4) Tryd.func47 (latheref02_Of.calls a0 t383 t384 t385 t386 true _ A2.out) (fun w4 hb => ?_); clear A2; replace HB := bst hb; (try clear hb)))
  go_ret
  exact fin_
 replace c3 := Bool.eq_false_iff.mpr c3
 subst c3
 rw [if_neg (show ¬ (false = true) by decide)] at H
 obtain rfl := Option.some.inj H
 go_enter Tryd.func45, Tryd.ntmps45
 go_wp2_with (first | ((with_reducible refine gate_callee (f := 47) rfl ?_); refine gC (some 4) Tryd.func47 (latheref02_Of.calls a0 t383 t384 t385 t386 false _ A2.out) (fun w5 hb => ?_); clear A2; replace HB := bst hb; (try clear hb)))
 go_ret
 exact fin_

/-! ### latheref14_Wave: function 19 -/
mutual
def latheref14_Wave.j0 : Nat → Int → Int → Option (Int)
 | 0, _, _ => none
 | k + 1, x0, x3 => (latheref02_Mul.f k x3 x3).bind fun t393 => (latheref14_Wave.l0 k x0 t393 (([3167971577, 1047591555, 3215649252, 1082253560, 3231574502, 1065353216] : List Int)) 989653445 0)
def latheref14_Wave.l0 : Nat → Int → Int → List Int → Int → Int → Option (Int)
 | 0, _, _, _, _, _ => none
 | k + 1, x0, x4, x5, x6, x7 => if x7 < (x5.length : Int) then ((latheref02_Mul.f k x6 x4).bind fun t397 => (if 0 ≤ x7 then ((latheref02_Add.f k t397 (rd x5 x7)).bind fun t399 => (latheref14_Wave.l0 k x0 x4 x5 t399 (wrap64 (x7 + 1)))) else (none))) else ((latheref02_Less.f k 1056964608 x0).bind fun t400 => (if t400 = true then ((latheref02_Neg.f x6).bind fun t401 => (some t401)) else (some x6)))
end
def latheref14_Wave.f (k : Nat) (a0 : Int) : Option (Int) := (latheref02_Max.f a0 0).bind fun t388 => ((latheref02_Min.f t388 1065353216).bind fun t389 => ((latheref02_Canon.f t389).bind fun t390 => (if t390 = 2143289344 then (some 2143289344) else (if t389 = 1056964608 then (some 0) else ((latheref02_Less.f k 1056964608 t389).bind fun t391 => (if t391 = true then ((latheref02_Sub.f k 1065353216 t389).bind fun t392 => (latheref14_Wave.j0 k t389 t392)) else (latheref14_Wave.j0 k t389 t389)))))))
theorem latheref14_Wave.mono_l : ∀ k, (∀ y0 y1, LeO (latheref14_Wave.j0 k y0 y1) (latheref14_Wave.j0 (k + 1) y0 y1)) ∧ (∀ y0 y1 y2 y3 y4, LeO (latheref14_Wave.l0 k y0 y1 y2 y3 y4) (latheref14_Wave.l0 (k + 1) y0 y1 y2 y3 y4))
 | 0 => ⟨fun _ _ r h => by simp [latheref14_Wave.j0] at h, fun _ _ _ _ _ r h => by simp [latheref14_Wave.l0] at h⟩
 | k + 1 => by
  obtain ⟨ih0, ih1⟩ := latheref14_Wave.mono_l k
  refine ⟨?_, ?_⟩ <;> intros <;> (first | unfold latheref14_Wave.j0 | unfold latheref14_Wave.l0)
  all_goals repeat' with_reducible first
   | exact ih0 _ _
   | exact ih1 _ _ _ _ _
   | exact latheref02_Add.mono _ _ _
   | exact latheref02_Less.mono _ _ _
   | exact latheref02_Mul.mono _ _ _
   | exact latheref02_Sub.mono _ _ _
   | exact LeO.refl _
   | exact LeO.none _
   | refine LeO.ite ?_ ?_
   | refine LeO.bind ?_ (fun _ => ?_)
theorem latheref14_Wave.mono : ∀ a0 k, LeO (latheref14_Wave.f k a0) (latheref14_Wave.f (k + 1) a0) := by
 intro a0 k
 obtain ⟨ih0, ih1⟩ := latheref14_Wave.mono_l k
 unfold latheref14_Wave.f
 repeat' with_reducible first
  | exact ih0 _ _
  | exact ih1 _ _ _ _ _
  | exact latheref02_Add.mono _ _ _
  | exact latheref02_Less.mono _ _ _
  | exact latheref02_Mul.mono _ _ _
  | exact latheref02_Sub.mono _ _ _
  | exact LeO.refl _
  | exact LeO.none _
  | refine LeO.ite ?_ ?_
  | refine LeO.bind ?_ (fun _ => ?_)
def latheref14_Wave.T15 : Bool × List (List Nat × List Nat) := (true, [([], []), ([], []), ([0, 1], [0, 1]), ([], []), ([], []), ([3, 4], [3, 4]), ([5], [5]), ([2, 6, 2], [2, 6]), ([7, 7, 0, 1, 2, 3, 4, 5, 6, 7], [0, 7])])
def latheref14_Wave.B15 : List Nat := [0, 0, 3, 0, 0, 24, 56, 127, 255]
theorem latheref14_Wave.tab15 : rtab .any (opsOf Tryd.f19 15) = latheref14_Wave.T15 := by kernel_rfl
theorem latheref14_Wave.bits15 : waitsOk latheref14_Wave.T15.2 latheref14_Wave.B15 = true := by kernel_rfl
set_option maxHeartbeats 8000000 in
set_option maxRecDepth 100000 in
theorem latheref14_Wave.calls (k : Nat) (a0 : Int) (r : Int) (w : World) (h : latheref14_Wave.f k a0 = some r) :
  Calls Tryd.prog 19 #[.int .i64 a0] w fun e w' => e = .returned (.int .i64 r) ∧ Below w.heap.size w w' := by
 have HB := Aside0.mk (Below.refl w.heap.size w)
 have H : ((latheref02_Max.f a0 0).bind fun t388 => ((latheref02_Min.f t388 1065353216).bind fun t389 => ((latheref02_Canon.f t389).bind fun t390 => (if t390 = 2143289344 then (some 2143289344) else (if t389 = 1056964608 then (some 0) else ((latheref02_Less.f k 1056964608 t389).bind fun t391 => (if t391 = true then ((latheref02_Sub.f k 1065353216 t389).bind fun t392 => (latheref14_Wave.j0 k t389 t392)) else (latheref14_Wave.j0 k t389 t389)))))))) = some r := h
 clear h
 replace H := Option.bind_eq_some_iff.mp H
 obtain ⟨t388, A20, H⟩ := H
 have A2 := Aside0.mk A20
 clear A20
 replace H := Option.bind_eq_some_iff.mp H
 obtain ⟨t389, A30, H⟩ := H
 have A3 := Aside0.mk A30
 clear A30
 replace H := Option.bind_eq_some_iff.mp H
 obtain ⟨t390, A40, H⟩ := H
 have A4 := Aside0.mk A40
 clear A40
 by_cases c5 : t390 = 2143289344
 ·rw [if_pos c5] at H
  have c5b0 : (t390 == 2143289344) = true := beq_iff_eq.mpr c5
  have c5b1 : (t390 != 2143289344) = false := bne_eq_false_iff_eq.mpr c5
  clear c5
  obtain rfl := Option.some.inj H
  go_enter Tryd.func19, Tryd.ntmps19
  go_wp2_with (first | ((with_reducible refine gate_callee (f := 44) rfl ?_); refine gC (some 9) Tryd.func44 (latheref02_Max.calls a0 0 t388 _ A2.out) (fun w6 hb => ?_); clear A2; replace HB := bst hb; (try clear hb)) | ((with_reducible refine gate_callee (f := 43) rfl ?_); refine gC (some 10) Tryd.func43 (latheref02_Min.calls t388 1065353216 t389 _ A3.out) (fun w7 hb => ?_); clear A3; replace HB := bst hb; (try clear hb)) | ((with_reducible refine gate_callee (f := 45) rfl ?_); refine gC (some 12) Tryd.func45 (latheref02_Canon.calls t389 t390 _ A4.out) (fun w8 hb => ?_); clear A4; replace HB := bst hb; (try clear hb)))
  go_ret
  exact fin_
 rw [if_neg c5] at H
 have c5b0 : (t390 == 2143289344) = false := beq_eq_false_iff_ne.mpr c5
 have c5b1 : (t390 != 2143289344) = true := bne_iff_ne.mpr c5
 by_cases c9 : t389 = 1056964608
 ·rw [if_pos c9] at H
  have c9b0 : (t389 == 1056964608) = true := beq_iff_eq.mpr c9
  have c9b1 : (t389 != 1056964608) = false := bne_eq_false_iff_eq.mpr c9
  clear c9
  obtain rfl := Option.some.inj H
  go_enter Tryd.func19, Tryd.ntmps19
  go_wp2_with (first | ((with_reducible refine gate_callee (f := 44) rfl ?_); refine gC (some 9) Tryd.func44 (latheref02_Max.calls a0 0 t388 _ A2.out) (fun w10 hb => ?_); clear A2; replace HB := bst hb; (try clear hb)) | ((with_reducible refine gate_callee (f := 43) rfl ?_); refine gC (some 10) Tryd.func43 (latheref02_Min.calls t388 1065353216 t389 _ A3.out) (fun w11 hb => ?_); clear A3; replace HB := bst hb; (try clear hb)) | ((with_reducible refine gate_callee (f := 45) rfl ?_); refine gC (some 12) Tryd.func45 (latheref02_Canon.calls t389 t390 _ A4.out) (fun w12 hb => ?_); clear A4; replace HB := bst hb; (try clear hb)))
  go_ret
  exact fin_
 rw [if_neg c9] at H
 have c9b0 : (t389 == 1056964608) = false := beq_eq_false_iff_ne.mpr c9
 have c9b1 : (t389 != 1056964608) = true := bne_iff_ne.mpr c9
 replace H := Option.bind_eq_some_iff.mp H
 obtain ⟨t391, A130, H⟩ := H
 have A13 := Aside0.mk A130
 clear A130
 have HC14 := Aside0.mk H
 clear H
 go_enter Tryd.func19, Tryd.ntmps19
 go_upto_if 18 with (first | ((with_reducible refine gate_callee (f := 44) rfl ?_); refine gC (some 9) Tryd.func44 (latheref02_Max.calls a0 0 t388 _ A2.out) (fun w15 hb => ?_); clear A2; replace HB := bst hb; (try clear hb)) | ((with_reducible refine gate_callee (f := 43) rfl ?_); refine gC (some 10) Tryd.func43 (latheref02_Min.calls t388 1065353216 t389 _ A3.out) (fun w16 hb => ?_); clear A3; replace HB := bst hb; (try clear hb)) | ((with_reducible refine gate_callee (f := 45) rfl ?_); refine gC (some 12) Tryd.func45 (latheref02_Canon.calls t389 t390 _ A4.out) (fun w17 hb => ?_); clear A4; replace HB := bst hb; (try clear hb)) | ((with_reducible refine gate_callee (f := 20) rfl ?_); refine gC (some 18) Tryd.func20 (latheref02_Less.calls k 1056964608 t389 t391 _ A13.out) (fun w18 hb => ?_); clear A13; replace HB := bst hb; (try clear hb)))
 simp only [Act.put, List.setIfInBounds_toArray, List.set_cons_zero, List.set_cons_succ]
 go_cut [3] (fun v3 wc => ∃ (kq : Nat) (x3_13 : Int), v3 = .int .i64 x3_13 ∧ Aside0 (latheref14_Wave.j0 kq t389 x3_13 = some r) ∧ Aside0 (kq ≤ k) ∧ Aside0 (Below w.heap.size w wc))
 case first =>
  have H := HC14.out
  clear HC14
  by_cases c19 : t391 = true
  rotate_left
  ·replace c19 := Bool.eq_false_iff.mpr c19
   subst c19
   rw [if_neg (show ¬ (false = true) by decide)] at H
   have H' := Aside0.mk H
   clear H
   go_wp2
   go_meet
   case rel => exact ⟨_, (t389), id_, H', ⟨by first | omega | exact Nat.le_refl _⟩, ⟨hbb⟩⟩
  subst c19
  rw [if_pos rfl] at H
  replace H := Option.bind_eq_some_iff.mp H
  obtain ⟨t392, A200, H⟩ := H
  have A20 := Aside0.mk A200
  clear A200
  have H' := Aside0.mk H
  clear H
  go_wp2_with (first | ((with_reducible refine gate_callee (f := 22) rfl ?_); refine gC (some 20) Tryd.func22 (latheref02_Sub.calls k 1065353216 t389 t392 _ A20.out) (fun w21 hb => ?_); clear A20; replace HB := bst hb; (try clear hb)))
  go_meet
  case rel => exact ⟨_, (t392), id_, H', ⟨by first | omega | exact Nat.le_refl _⟩, ⟨hbb⟩⟩
 case rest =>
  clear HC14 c5 c5b0 c5b1 c9 c9b0 c9b1
  obtain ⟨kq, x3_13, rfl, HA, HJ13, HB⟩ := hcut
  cases kq with
  | zero => exact absurd HA.out (by simp [latheref14_Wave.j0])
  | succ kj13 =>
   have H := HA.out
   clear HA
   simp only [latheref14_Wave.j0] at H
   replace H := Option.bind_eq_some_iff.mp H
   obtain ⟨t393, A220, H⟩ := H
   have A22 := Aside0.mk A220
   clear A220
   obtain ⟨y394, hy394⟩ : ∃ y_ : List Int, y_ = (([3167971577, 1047591555, 3215649252, 1082253560, 3231574502, 1065353216] : List Int)) := ⟨_, rfl⟩
   replace H : (latheref14_Wave.l0 kj13 t389 t393 y394 989653445 0) = some r := by first | (rw [hy394]; with_reducible exact H) | (have H2_ := (Option.bind_some _ _).symm.trans H; rw [hy394]; with_reducible exact H2_) | (have H2_ := (Option.bind_some _ _).symm.trans H; with_reducible exact H2_) | with_reducible exact H | (rw [hy394]; exact H) | exact H
   have Ny394 := Aside0.mk hy394
   clear hy394
   have H' := Aside0.mk H
   clear H
   go_wp2_with (first | ((with_reducible refine gate_callee (f := 27) rfl ?_); refine gC (some 23) Tryd.func27 (latheref02_Mul.calls kj13 x3_13 x3_13 t393 _ A22.out) (fun w23 hb => ?_); clear A22; replace HB := bst hb; (try clear hb)) | ((with_reducible refine gate_dst (N := 24) rfl ?_); refine Kd.R_lit (Kd.int .i64) _ 3 ?hg (N := 24) ?hd (xs := ([3167971577, 1047591555, 3215649252, 1082253560, 3231574502, 1065353216] : List Int)) (inner := [.int .i64 3167971577, .int .i64 1047591555, .int .i64 3215649252, .int .i64 1082253560, .int .i64 3231574502, .int .i64 1065353216]) (ok := fun _ => True) (okp := fun _ => True) ?hr ?hp (fun _ hk => hk) trivial (Below.refl _ _) (Nat.le_refl _) (by simp) ?_; (case hd => rfl); (case hg => rfl); (case hr => first | (go_simp; done) | (go_simp; rfl)); (case hp => exact (Reps.one (show Kd.M (Kd.int .i64) _ _ _ 3167971577 [.int .i64 3167971577] from rfl) (Reps.one (show Kd.M (Kd.int .i64) _ _ _ 1047591555 [.int .i64 1047591555] from rfl) (Reps.one (show Kd.M (Kd.int .i64) _ _ _ 3215649252 [.int .i64 3215649252] from rfl) (Reps.one (show Kd.M (Kd.int .i64) _ _ _ 1082253560 [.int .i64 1082253560] from rfl) (Reps.one (show Kd.M (Kd.int .i64) _ _ _ 3231574502 [.int .i64 3231574502] from rfl) (Reps.one (show Kd.M (Kd.int .i64) _ _ _ 1065353216 [.int .i64 1065353216] from rfl) (Reps.none _ _)))))))); intro v395 w24 ho25 hb hg_ hnew_; clear hg_ hnew_; (first | rw [← Ny394.out] at ho25 | (simp only [Int.reduceToNat] at ho25; rw [← Ny394.out] at ho25)); have HO396 := Aside0.mk (Kd.R_lower ho25 (below_size hbb)); replace HB := bst hb; clear hb ho25))
   go_loopg [6, 7] kj13 (fun kq v6 v7 w' => ∃ (x6_2 : Int) (x7_2 : Int), v6 = .int .i64 x6_2 ∧ v7 = .int .i64 x7_2 ∧ Aside0 (latheref14_Wave.l0 kq t389 t393 y394 x6_2 x7_2 = some r) ∧ Aside0 (kq ≤ kj13) ∧ Aside0 (Kd.R (Kd.int .i64) 3 w' w.heap.size (fun _ => True) v395 y394) ∧ Aside0 (Below w.heap.size w w'))
   case atStart => exact ⟨(989653445), (0), id_, id_, H', ⟨Nat.le_refl _⟩, ⟨by (with_reducible repeat (first | apply Kd.R_alloc | apply Kd.R_drewN | apply Kd.R_drew)); exact HO396.out⟩, ⟨hbb⟩⟩
   case round =>
    clear H'
    obtain ⟨x6_2, x7_2, rfl, rfl, HA, HK2, HO_5, HB⟩ := hrel
    cases gk with
    | zero => exact absurd HA.out (by simp [latheref14_Wave.l0])
    | succ k2 =>
     have H := HA.out
     clear HA
     simp only [latheref14_Wave.l0] at H
     by_cases c26 : x7_2 < (y394.length : Int)
     rotate_left
     ·rw [if_neg c26] at H
      have c26b0 := decide_eq_false c26
      clear c26
      replace H := Option.bind_eq_some_iff.mp H
      obtain ⟨t400, A340, H⟩ := H
      have A34 := Aside0.mk A340
      clear A340
      by_cases c35 : t400 = true
      rotate_left
      ·replace c35 := Bool.eq_false_iff.mpr c35
       subst c35
       rw [if_neg (show ¬ (false = true) by decide)] at H
       obtain rfl := Option.some.inj H
       obtain ⟨Ao40, co40, eo40⟩ := Kd.R_slice HO_5.out
       subst eo40
       go_wp2_with (first | ((with_reducible refine gate_callee (f := 20) rfl ?_); refine gC (some 40) Tryd.func20 (latheref02_Less.calls k2 1056964608 t389 false _ A34.out) (fun w41 hb => ?_); clear A34; replace HO_5 := ros HO_5 hb; replace HB := bst hb; (try clear hb)))
       go_ret
       exact fin_
      subst c35
      rw [if_pos rfl] at H
      replace H := Option.bind_eq_some_iff.mp H
      obtain ⟨t401, A360, H⟩ := H
      have A36 := Aside0.mk A360
      clear A360
      obtain rfl := Option.some.inj H
      obtain ⟨Ao37, co37, eo37⟩ := Kd.R_slice HO_5.out
      subst eo37
      go_wp2_with (first | ((with_reducible refine gate_callee (f := 20) rfl ?_); refine gC (some 40) Tryd.func20 (latheref02_Less.calls k2 1056964608 t389 true _ A34.out) (fun w38 hb => ?_); clear A34; replace HO_5 := ros HO_5 hb; replace HB := bst hb; (try clear hb)) | ((with_reducible refine gate_callee (f := 23) rfl ?_); refine gC (some 42) Tryd.func23 (latheref02_Neg.calls x6_2 t401 _ A36.out) (fun w39 hb => ?_); clear A36; replace HO_5 := ros HO_5 hb; replace HB := bst hb; (try clear hb)))
      go_ret
      exact fin_
     rw [if_pos c26] at H
     have c26b0 := decide_eq_true c26
     clear c26
     replace H := Option.bind_eq_some_iff.mp H
     obtain ⟨t397, A270, H⟩ := H
     have A27 := Aside0.mk A270
     clear A270
     by_cases c28 : 0 ≤ x7_2
     rotate_left
     ·rw [if_neg c28] at H
      exact absurd H (by simp)
     rw [if_pos c28] at H
     have c28b0 := decide_eq_true c28
     clear c28
     replace H := Option.bind_eq_some_iff.mp H
     obtain ⟨t399, A290, H⟩ := H
     have A29 := Aside0.mk A290
     clear A290
     have H' := Aside0.mk H
     clear H
     obtain ⟨Ao30, co30, eo30⟩ := Kd.R_slice HO_5.out
     subst eo30
     try go_wp2
     replace HO_5 := Aside0.mk (Kd.R_drew HO_5.out)
     replace HB := Aside0.mk (below_drew1 HB.out)
     have p398 : 0 ≤ (x7_2 : Int) := of_decide_eq_true as_
     have q398 : x7_2 < (y394.length : Int) := of_decide_eq_true as_
     obtain ⟨ad398, e398, hx398_0⟩ := Kd.at_int (Kd.R_reads' HO_5.out).2.2 x7_2 p398 q398
     cases e398
     replace p398 := eq_true p398
     replace q398 := eq_true q398
     refine start_ (n := 9) (S := fun w' => w'.cell? (ad398.add (x7_2).toNat) = some (.int .i64 (rd y394 x7_2))) (ds := []) #[false, false, false, false, false, false, false, false, false] (by kernel_rfl) rfl rfl (hx398_0) (fun hHeld => ?_); refine with_tabW latheref14_Wave.tab15 latheref14_Wave.bits15 (fun HT_ HW_ => ?_)
     generalize wr.drew = w31 at HO_5 HB hx398_0 hHeld ⊢
     refine pu (i := 0) (N := some 31) ?_
     refine pu (i := 1) (N := some 32) ?_
     refine pu (i := 3) (N := some 34) ?_
     refine pu (i := 4) (N := some 35) ?_
     refine pu (i := 5) (N := some 36) ?_
     refine take_ (i := 6) (N := some 37) (v := ?_) (a' := ?_) #[true, true, false, true, true, true, true, false, false] rfl rfl (take_ofW HT_.out HW_.out (by kernel_rfl)) (fun _ _ _ h => h) (Or.inl ⟨by rfl, ?_⟩) hHeld ?_ ?_
     rotate_left
     ·intro w' s0
      go_simp
      with_reducible rfl
     rotate_left
     ·simp only [Act.put, List.setIfInBounds_toArray, List.set_cons_zero, List.set_cons_succ, i64_w, i32_w]
      rfl
     refine on (i := 2) (N := some 33) (fun K hK => ?_)
     refine gA Tryd.func27 #[.int .i64 x6_2, .int .i64 t393] ?_
     with_reducible refine (latheref02_Mul.calls k2 x6_2 t393 t397 _ A27.out).mono ?_
     rintro e w32 ⟨rfl, hb⟩
     have HS0_ := (hb.cell (World.block_lt_of_cell? _ _ (hHeld))).trans (hHeld)
     refine ⟨_, rfl, ?_⟩
     replace HO_5 := ros HO_5 hb
     replace HB := bst hb
     clear hb
     refine nxt hK.out (HS0_) (fun hHeld => ?_)
     refine on (i := 7) (N := some 38) (fun K hK => ?_)
     refine gA Tryd.func26 #[.int .i64 t397, .int .i64 (rd y394 x7_2)] ?_
     with_reducible refine (latheref02_Add.calls k2 t397 (rd y394 x7_2) t399 _ A29.out).mono ?_
     rintro e w33 ⟨rfl, hb⟩
     have HS0_ := (hb.cell (World.block_lt_of_cell? _ _ (hHeld))).trans (hHeld)
     refine ⟨_, rfl, ?_⟩
     replace HO_5 := ros HO_5 hb
     replace HB := bst hb
     clear hb
     refine nxt hK.out (HS0_) (fun hHeld => ?_)
     refine pu (i := 8) (N := some 6) ?_
     refine done_ (done_of HT_.out (by kernel_rfl)) ?_
     try go_wp2
     go_roundg k2
     case measure => have := HJ13.out; have := HK2.out; omega
     case rel => exact ⟨(t399), (wrap64 (x7_2 + 1)), id_, id_, H', ⟨by have := HJ13.out; have := HK2.out; omega⟩, ⟨by (with_reducible repeat (first | apply Kd.R_alloc | apply Kd.R_drewN | apply Kd.R_drew)); exact HO_5.out⟩, ⟨hbb⟩⟩

end Go.Proofs.YtmfladkimmnccaaDoor.PW
