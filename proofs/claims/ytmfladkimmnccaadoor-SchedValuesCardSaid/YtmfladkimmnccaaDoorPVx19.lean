/- The functions of the program that a statement reaches, as plain functions, and that the machine's calls do what these say. No condition. (Printed by a program.) -/
import Derived.Test.YtmfladkimmnccaaDoorPWx0
import Derived.Test.YtmfladkimmnccaaDoorPVx11
import Derived.Test.YtmfladkimmnccaaDoorPVx13
import Derived.Test.YtmfladkimmnccaaDoorPVx14
import Derived.Test.YtmfladkimmnccaaDoorPVx16
import Derived.Test.YtmfladkimmnccaaDoorPVx17
import Derived.Test.YtmfladkimmnccaaDoorPVx18
import Derived.Test.YtmfladkimmnccaaDoorWal
namespace Go.Proofs.YtmfladkimmnccaaDoor.PW
open Go.RowKit Go.Proofs.YtmfladkimmnccaaDoorW.PrintWords Go.Proofs.YtmfladkimmnccaaDoorW.PrintLast Go.Proofs.YtmfladkimmnccaaDoorW.PrintMore Go.Proofs.YtmfladkimmnccaaDoor.Sht
attribute [local go_sem] max2_int min2_int max_two min_two max_three min_three max_four min_four   -- for this text's walks alone
set_option linter.unusedVariables false
set_option linter.unusedSimpArgs false

/-! ### latheref14_at: function 32 -/
mutual
def latheref14_at.l0 : Nat → Int → List Int → Int → Int → List Int → List Int → List (S26) → Option (Int)
 | 0, _, _, _, _, _, _, _ => none
 | k + 1, x1, x5, x6, x450000, x450001, x450002, x450003 => if x6 < (x450001.length : Int) then (if 0 ≤ x6 then (if x5.length < 17592186044416 then (latheref14_at.l0 k x1 (x5 ++ [wrap64 (rd x450001 x6)]) (wrap64 (x6 + 1)) x450000 x450001 x450002 x450003) else (none)) else (none)) else (if x450000 = 1 then (if 0 < (x5.length : Int) then (some (rd x5 0)) else (none)) else (if x450000 = 2 then (if 2 < (x450002.length : Int) then (if 1 < (x450002.length : Int) then ((latheref02_FromInt.f k (mn (mx (wrap64 (x1 - (rd x450002 2))) 0) (rd x450002 1))).bind fun t457 => ((latheref02_FromInt.f k (rd x450002 1)).bind fun t459 => ((latheref02_Div.f k t457 t459).bind fun t460 => ((latheref02_Sub.f k 1065353216 t460).bind fun t461 => (if 0 < (x5.length : Int) then (if 1 < (x5.length : Int) then ((latheref02_Sub.f k (rd x5 0) (rd x5 1)).bind fun t464 => (if 0 < (x450002.length : Int) then ((latheref02_Power.f k t461 (rd x450002 0)).bind fun t466 => ((latheref02_Mul.f k t464 t466).bind fun t467 => ((latheref02_Add.f k t467 (rd x5 1)).bind fun t469 => (some t469)))) else (none))) else (none)) else (none)))))) else (none)) else (none)) else (if x450000 = 3 then (if 1 < (x450002.length : Int) then (if 0 < (x450002.length : Int) then (if (rd x450002 0) = 0 then (none) else (if 0 < (x5.length : Int) then (if 1 < (x5.length : Int) then ((latheref02_Power.f k (rd x5 1) (wrap64 ((mx (wrap64 (x1 - (rd x450002 1))) 0) / (rd x450002 0)))).bind fun t474 => ((latheref02_Mul.f k (rd x5 0) t474).bind fun t475 => (some t475))) else (none)) else (none))) else (none)) else (none)) else (if x450000 = 4 then (if 0 < (x450002.length : Int) then ((latheref02_FromInt.f k (mn x1 (rd x450002 0))).bind fun t477 => ((latheref02_FromInt.f k (rd x450002 0)).bind fun t479 => ((latheref02_Div.f k t477 t479).bind fun t480 => ((latheref14_Wave.f k t480).bind fun t481 => ((latheref02_Add.f k 1065353216 t481).bind fun t482 => ((latheref02_Mul.f k 1056964608 t482).bind fun t483 => (if 1 < (x5.length : Int) then ((latheref02_Sub.f k 1065353216 (rd x5 1)).bind fun t485 => ((latheref02_Mul.f k t485 t483).bind fun t486 => ((latheref02_Add.f k t486 (rd x5 1)).bind fun t488 => (if 0 < (x5.length : Int) then ((latheref02_Mul.f k t488 (rd x5 0)).bind fun t490 => (some t490)) else (none))))) else (none)))))))) else (none)) else (if x450000 = 5 then (if 0 < (x5.length : Int) then (latheref14_at.l1 k x1 x5 (rd x5 0) 0 x450000 x450001 x450002 x450003) else (none)) else (if x450000 = 6 then (latheref14_at.l2 k x1 0 0 0 x450000 x450001 x450002 x450003) else (if x450000 = 8 then (if 0 < (x450003.length : Int) then ((latheref14_at.f k ((rd_T26 x450003 0).f0) ((rd_T26 x450003 0).f1) ((rd_T26 x450003 0).f2) ((rd_T26 x450003 0).f3) x1).bind fun t500 => (if 1 < (x450003.length : Int) then ((latheref14_at.f k ((rd_T26 x450003 1).f0) ((rd_T26 x450003 1).f1) ((rd_T26 x450003 1).f2) ((rd_T26 x450003 1).f3) x1).bind fun t502 => ((latheref02_Add.f k t500 t502).bind fun t503 => (some t503))) else (none))) else (none)) else (if x450000 = 9 then (if 0 < (x450003.length : Int) then ((latheref14_at.f k ((rd_T26 x450003 0).f0) ((rd_T26 x450003 0).f1) ((rd_T26 x450003 0).f2) ((rd_T26 x450003 0).f3) x1).bind fun t505 => (if 1 < (x450003.length : Int) then ((latheref14_at.f k ((rd_T26 x450003 1).f0) ((rd_T26 x450003 1).f1) ((rd_T26 x450003 1).f2) ((rd_T26 x450003 1).f3) x1).bind fun t507 => ((latheref02_Mul.f k t505 t507).bind fun t508 => (some t508))) else (none))) else (none)) else (if x450000 = 10 then (if 0 < (x450003.length : Int) then ((latheref14_at.f k ((rd_T26 x450003 0).f0) ((rd_T26 x450003 0).f1) ((rd_T26 x450003 0).f2) ((rd_T26 x450003 0).f3) x1).bind fun t510 => (if 1 < (x450003.length : Int) then ((latheref14_at.f k ((rd_T26 x450003 1).f0) ((rd_T26 x450003 1).f1) ((rd_T26 x450003 1).f2) ((rd_T26 x450003 1).f3) x1).bind fun t512 => ((latheref02_Min.f t510 t512).bind fun t513 => (some t513))) else (none))) else (none)) else (if x450000 = 11 then (if 0 < (x450003.length : Int) then ((latheref14_at.f k ((rd_T26 x450003 0).f0) ((rd_T26 x450003 0).f1) ((rd_T26 x450003 0).f2) ((rd_T26 x450003 0).f3) x1).bind fun t515 => (if 1 < (x450003.length : Int) then ((latheref14_at.f k ((rd_T26 x450003 1).f0) ((rd_T26 x450003 1).f1) ((rd_T26 x450003 1).f2) ((rd_T26 x450003 1).f3) x1).bind fun t517 => ((latheref02_Max.f t515 t517).bind fun t518 => (some t518))) else (none))) else (none)) else (if x450000 = 12 then (if 0 < (x450003.length : Int) then (if 0 < (x450002.length : Int) then ((latheref14_at.f k ((rd_T26 x450003 0).f0) ((rd_T26 x450003 0).f1) ((rd_T26 x450003 0).f2) ((rd_T26 x450003 0).f3) (mx (wrap64 (x1 - (rd x450002 0))) 0)).bind fun t521 => (some t521)) else (none)) else (none)) else (if x450000 = 13 then (if 0 < (x450003.length : Int) then (if 0 < (x450002.length : Int) then ((latheref14_at.f k ((rd_T26 x450003 0).f0) ((rd_T26 x450003 0).f1) ((rd_T26 x450003 0).f2) ((rd_T26 x450003 0).f3) (mn x1 (rd x450002 0))).bind fun t524 => (some t524)) else (none)) else (none)) else (if 0 < (x450002.length : Int) then ((latheref02_FromInt.f k (rd x450002 0)).bind fun t526 => ((latheref02_FromInt.f k (mx x1 (rd x450002 0))).bind fun t528 => ((latheref02_Div.f k t526 t528).bind fun t529 => (if 0 < (x5.length : Int) then ((latheref02_Sqrt.f k t529).bind fun t531 => ((latheref02_Mul.f k (rd x5 0) t531).bind fun t532 => (some t532))) else (none))))) else (none))))))))))))))
def latheref14_at.l1 : Nat → Int → List Int → Int → Int → Int → List Int → List Int → List (S26) → Option (Int)
 | 0, _, _, _, _, _, _, _, _ => none
 | k + 1, x1, x5, x14, x15, x450000, x450001, x450002, x450003 => if x15 < (x450002.length : Int) then (if 0 ≤ x15 then (if (rd x450002 x15) ≤ x1 then (if 0 ≤ (wrap64 (x15 + 1)) then (if (wrap64 (x15 + 1)) < (x5.length : Int) then ((latheref02_Mul.f k x14 (rd x5 (wrap64 (x15 + 1)))).bind fun t494 => (latheref14_at.l1 k x1 x5 t494 (wrap64 (x15 + 1)) x450000 x450001 x450002 x450003)) else (none)) else (none)) else (latheref14_at.l1 k x1 x5 x14 (wrap64 (x15 + 1)) x450000 x450001 x450002 x450003)) else (none)) else (some x14)
def latheref14_at.l2 : Nat → Int → Int → Int → Int → Int → List Int → List Int → List (S26) → Option (Int)
 | 0, _, _, _, _, _, _, _, _ => none
 | k + 1, x1, x16, x17, x18, x450000, x450001, x450002, x450003 => if x18 < (x450002.length : Int) then (if 0 ≤ x18 then (if (rd x450002 x18) ≤ x1 then (latheref14_at.l2 k x1 (wrap64 (x18 + 1)) (rd x450002 x18) (wrap64 (x18 + 1)) x450000 x450001 x450002 x450003) else (latheref14_at.l2 k x1 x16 x17 (wrap64 (x18 + 1)) x450000 x450001 x450002 x450003)) else (none)) else (if 0 ≤ x16 then (if x16 < (x450003.length : Int) then ((latheref14_at.f k ((rd_T26 x450003 x16).f0) ((rd_T26 x450003 x16).f1) ((rd_T26 x450003 x16).f2) ((rd_T26 x450003 x16).f3) (wrap64 (x1 - x17))).bind fun t498 => (some t498)) else (none)) else (none))
def latheref14_at.f : Nat → Int → List Int → List Int → List (S26) → Int → Option (Int)
 | 0, _, _, _, _, _ => none
 | k + 1, a0_0, l0_1, l0_2, l0_3, a1 => latheref14_at.l0 k a1 ([] : List Int) 0 a0_0 l0_1 l0_2 l0_3
end
theorem latheref14_at.mono_l : ∀ k, (∀ y0 y1 y2 y3 y4, LeO (latheref14_at.f k y0 y1 y2 y3 y4) (latheref14_at.f (k + 1) y0 y1 y2 y3 y4)) ∧ (∀ y0 y1 y2 y3 y4 y5 y6, LeO (latheref14_at.l0 k y0 y1 y2 y3 y4 y5 y6) (latheref14_at.l0 (k + 1) y0 y1 y2 y3 y4 y5 y6)) ∧ (∀ y0 y1 y2 y3 y4 y5 y6 y7, LeO (latheref14_at.l1 k y0 y1 y2 y3 y4 y5 y6 y7) (latheref14_at.l1 (k + 1) y0 y1 y2 y3 y4 y5 y6 y7)) ∧ (∀ y0 y1 y2 y3 y4 y5 y6 y7, LeO (latheref14_at.l2 k y0 y1 y2 y3 y4 y5 y6 y7) (latheref14_at.l2 (k + 1) y0 y1 y2 y3 y4 y5 y6 y7))
 | 0 => ⟨fun _ _ _ _ _ r h => by simp [latheref14_at.f] at h, fun _ _ _ _ _ _ _ r h => by simp [latheref14_at.l0] at h, fun _ _ _ _ _ _ _ _ r h => by simp [latheref14_at.l1] at h, fun _ _ _ _ _ _ _ _ r h => by simp [latheref14_at.l2] at h⟩
 | k + 1 => by
  obtain ⟨ih0, ih1, ih2, ih3⟩ := latheref14_at.mono_l k
  refine ⟨?_, ?_, ?_, ?_⟩ <;> intros <;> (first | unfold latheref14_at.f | unfold latheref14_at.l0 | unfold latheref14_at.l1 | unfold latheref14_at.l2)
  all_goals repeat' with_reducible first
   | exact ih0 _ _ _ _ _
   | exact ih1 _ _ _ _ _ _ _
   | exact ih2 _ _ _ _ _ _ _ _
   | exact ih3 _ _ _ _ _ _ _ _
   | exact latheref02_Add.mono _ _ _
   | exact latheref02_Div.mono _ _ _
   | exact latheref02_FromInt.mono _ _
   | exact latheref02_Mul.mono _ _ _
   | exact latheref02_Power.mono _ _ _
   | exact latheref02_Sqrt.mono _ _
   | exact latheref02_Sub.mono _ _ _
   | exact latheref14_Wave.mono _ _
   | exact LeO.refl _
   | exact LeO.none _
   | refine LeO.ite ?_ ?_
   | refine LeO.bind ?_ (fun _ => ?_)
theorem latheref14_at.mono : ∀ a0 a1 a2 a3 a4 k, LeO (latheref14_at.f k a0 a1 a2 a3 a4) (latheref14_at.f (k + 1) a0 a1 a2 a3 a4) := by
 intro a0 a1 a2 a3 a4 k
 obtain ⟨ih0, ih1, ih2, ih3⟩ := latheref14_at.mono_l k
 exact ih0 a0 a1 a2 a3 a4
def latheref14_at.T10 : Bool × List (List Nat × List Nat) := (true, [([], []), ([], []), ([1], [1]), ([2], [2]), ([3], [3]), ([0, 4], [0, 4]), ([5], [5]), ([], []), ([7], [7]), ([8], [8]), ([9], [9]), ([6, 10], [6, 10]), ([11, 0, 1, 2, 3, 4, 5, 6, 7, 8, 9, 10, 11], [11])])
def latheref14_at.B10 : List Nat := [0, 0, 2, 6, 14, 31, 63, 0, 128, 384, 896, 2047, 4095]
theorem latheref14_at.tab10 : rtab .any (opsOf Tryd.f32 10) = latheref14_at.T10 := by kernel_rfl
theorem latheref14_at.bits10 : waitsOk latheref14_at.T10.2 latheref14_at.B10 = true := by kernel_rfl
def latheref14_at.T11 : Bool × List (List Nat × List Nat) := (true, [([], []), ([0], [0]), ([], []), ([2], [2]), ([3], [3]), ([4], [4]), ([5, 1], [5]), ([1, 6, 6], [1, 6]), ([7, 7], [7]), ([8, 8, 0, 1, 2, 3, 4, 5, 6, 7, 8], [8])])
def latheref14_at.B11 : List Nat := [0, 1, 0, 4, 12, 28, 63, 127, 255, 511]
theorem latheref14_at.tab11 : rtab .any (opsOf Tryd.f32 11) = latheref14_at.T11 := by kernel_rfl
theorem latheref14_at.bits11 : waitsOk latheref14_at.T11.2 latheref14_at.B11 = true := by kernel_rfl
def latheref14_at.T12 : Bool × List (List Nat × List Nat) := (true, [([], []), ([0], [0]), ([1], [1]), ([], []), ([3], [3]), ([4], [4]), ([2, 5], [2, 5]), ([6, 6, 0, 1, 2, 3, 4, 5, 6], [6])])
def latheref14_at.B12 : List Nat := [0, 1, 3, 0, 8, 24, 63, 127]
theorem latheref14_at.tab12 : rtab .any (opsOf Tryd.f32 12) = latheref14_at.T12 := by kernel_rfl
theorem latheref14_at.bits12 : waitsOk latheref14_at.T12.2 latheref14_at.B12 = true := by kernel_rfl
def latheref14_at.T13 : Bool × List (List Nat × List Nat) := (true, [([], []), ([], []), ([], []), ([2], [2]), ([3], [3]), ([4], [4]), ([1, 5], [1, 5]), ([0, 6, 6], [0, 6]), ([], []), ([8], [8]), ([9], [9]), ([7, 10, 7], [7, 10]), ([11, 11, 0, 1, 2, 3, 4, 5, 6, 7, 8, 9, 10, 11], [11])])
def latheref14_at.B13 : List Nat := [0, 0, 0, 4, 12, 28, 62, 127, 0, 256, 768, 2047, 4095]
theorem latheref14_at.tab13 : rtab .any (opsOf Tryd.f32 13) = latheref14_at.T13 := by kernel_rfl
theorem latheref14_at.bits13 : waitsOk latheref14_at.T13.2 latheref14_at.B13 = true := by kernel_rfl
def latheref14_at.T15 : Bool × List (List Nat × List Nat) := (true, [([], []), ([], []), ([1], [1]), ([2], [2]), ([3], [3]), ([0, 4], [0, 4]), ([5], [5]), ([], []), ([7], [7]), ([8], [8]), ([9], [9]), ([6, 10], [6, 10]), ([11, 0, 1, 2, 3, 4, 5, 6, 7, 8, 9, 10, 11], [11])])
def latheref14_at.B15 : List Nat := [0, 0, 2, 6, 14, 31, 63, 0, 128, 384, 896, 2047, 4095]
theorem latheref14_at.tab15 : rtab .any (opsOf Tryd.f32 15) = latheref14_at.T15 := by kernel_rfl
theorem latheref14_at.bits15 : waitsOk latheref14_at.T15.2 latheref14_at.B15 = true := by kernel_rfl
def latheref14_at.T16 : Bool × List (List Nat × List Nat) := (true, [([], []), ([0], [0]), ([1], [1]), ([], []), ([3], [3]), ([4], [4]), ([], []), ([5, 6], [5, 6]), ([2, 7, 7], [2, 7]), ([8, 8, 0, 1, 2, 3, 4, 5, 6, 7, 8], [8])])
def latheref14_at.B16 : List Nat := [0, 1, 3, 0, 8, 24, 0, 120, 255, 511]
theorem latheref14_at.tab16 : rtab .any (opsOf Tryd.f32 16) = latheref14_at.T16 := by kernel_rfl
theorem latheref14_at.bits16 : waitsOk latheref14_at.T16.2 latheref14_at.B16 = true := by kernel_rfl
def latheref14_at.T18 : Bool × List (List Nat × List Nat) := (true, [([], []), ([], []), ([1], [1]), ([2], [2]), ([3], [3]), ([0, 4], [0, 4]), ([5], [5]), ([], []), ([7], [7]), ([8], [8]), ([9], [9]), ([10, 6], [10]), ([6, 11, 11], [6, 11]), ([12, 12, 0, 1, 2, 3, 4, 5, 6, 7, 8, 9, 10, 11, 12], [12])])
def latheref14_at.B18 : List Nat := [0, 0, 2, 6, 14, 31, 63, 0, 128, 384, 896, 2047, 4095, 8191]
theorem latheref14_at.tab18 : rtab .any (opsOf Tryd.f32 18) = latheref14_at.T18 := by kernel_rfl
theorem latheref14_at.bits18 : waitsOk latheref14_at.T18.2 latheref14_at.B18 = true := by kernel_rfl
def latheref14_at.T21 : Bool × List (List Nat × List Nat) := (true, [([], []), ([], []), ([1], [1]), ([2], [2]), ([0, 3], [0, 3]), ([], []), ([5], [5]), ([6], [6]), ([4, 7, 4], [4, 7]), ([8, 8, 0, 1, 2, 3, 4, 5, 6, 7, 8], [8])])
def latheref14_at.B21 : List Nat := [0, 0, 2, 6, 15, 0, 32, 96, 255, 511]
theorem latheref14_at.tab21 : rtab .any (opsOf Tryd.f32 21) = latheref14_at.T21 := by kernel_rfl
theorem latheref14_at.bits21 : waitsOk latheref14_at.T21.2 latheref14_at.B21 = true := by kernel_rfl
def latheref14_at.T40 : Bool × List (List Nat × List Nat) := (true, [([], []), ([0], [0]), ([1], [1]), ([2], [2]), ([], []), ([3, 4], [3, 4]), ([], []), ([6], [6]), ([7], [7]), ([8], [8]), ([], []), ([9, 10, 5], [9, 10]), ([5, 11, 11], [5, 11]), ([12, 12, 0, 1, 2, 3, 4, 5, 6, 7, 8, 9, 10, 11, 12], [12])])
def latheref14_at.B40 : List Nat := [0, 1, 3, 7, 0, 31, 0, 64, 192, 448, 0, 2047, 4095, 8191]
theorem latheref14_at.tab40 : rtab .any (opsOf Tryd.f32 40) = latheref14_at.T40 := by kernel_rfl
theorem latheref14_at.bits40 : waitsOk latheref14_at.T40.2 latheref14_at.B40 = true := by kernel_rfl
def latheref14_at.T42 : Bool × List (List Nat × List Nat) := (true, [([], []), ([0], [0]), ([1], [1]), ([2], [2]), ([], []), ([3, 4], [3, 4]), ([], []), ([6], [6]), ([7], [7]), ([8], [8]), ([], []), ([9, 10, 5], [9, 10]), ([5, 11, 11], [5, 11]), ([12, 12, 0, 1, 2, 3, 4, 5, 6, 7, 8, 9, 10, 11, 12], [12])])
def latheref14_at.B42 : List Nat := [0, 1, 3, 7, 0, 31, 0, 64, 192, 448, 0, 2047, 4095, 8191]
theorem latheref14_at.tab42 : rtab .any (opsOf Tryd.f32 42) = latheref14_at.T42 := by kernel_rfl
theorem latheref14_at.bits42 : waitsOk latheref14_at.T42.2 latheref14_at.B42 = true := by kernel_rfl
def latheref14_at.T44 : Bool × List (List Nat × List Nat) := (true, [([], []), ([0], [0]), ([1], [1]), ([2], [2]), ([], []), ([3, 4], [3, 4]), ([], []), ([6], [6]), ([7], [7]), ([8], [8]), ([], []), ([9, 10, 5], [9, 10]), ([5, 11, 11], [5, 11]), ([12, 12, 0, 1, 2, 3, 4, 5, 6, 7, 8, 9, 10, 11, 12], [12])])
def latheref14_at.B44 : List Nat := [0, 1, 3, 7, 0, 31, 0, 64, 192, 448, 0, 2047, 4095, 8191]
theorem latheref14_at.tab44 : rtab .any (opsOf Tryd.f32 44) = latheref14_at.T44 := by kernel_rfl
theorem latheref14_at.bits44 : waitsOk latheref14_at.T44.2 latheref14_at.B44 = true := by kernel_rfl
def latheref14_at.T46 : Bool × List (List Nat × List Nat) := (true, [([], []), ([0], [0]), ([1], [1]), ([2], [2]), ([], []), ([3, 4], [3, 4]), ([], []), ([6], [6]), ([7], [7]), ([8], [8]), ([], []), ([9, 10, 5], [9, 10]), ([5, 11, 11], [5, 11]), ([12, 12, 0, 1, 2, 3, 4, 5, 6, 7, 8, 9, 10, 11, 12], [12])])
def latheref14_at.B46 : List Nat := [0, 1, 3, 7, 0, 31, 0, 64, 192, 448, 0, 2047, 4095, 8191]
theorem latheref14_at.tab46 : rtab .any (opsOf Tryd.f32 46) = latheref14_at.T46 := by kernel_rfl
theorem latheref14_at.bits46 : waitsOk latheref14_at.T46.2 latheref14_at.B46 = true := by kernel_rfl
def latheref14_at.T48 : Bool × List (List Nat × List Nat) := (true, [([], []), ([0], [0]), ([1], [1]), ([2], [2]), ([], []), ([], []), ([5], [5]), ([6], [6]), ([7], [7]), ([4, 8], [4, 8]), ([9], [9]), ([3, 10], [3, 10]), ([11, 11, 0, 1, 2, 3, 4, 5, 6, 7, 8, 9, 10, 11], [11])])
def latheref14_at.B48 : List Nat := [0, 1, 3, 7, 0, 0, 32, 96, 224, 496, 1008, 2047, 4095]
theorem latheref14_at.tab48 : rtab .any (opsOf Tryd.f32 48) = latheref14_at.T48 := by kernel_rfl
theorem latheref14_at.bits48 : waitsOk latheref14_at.T48.2 latheref14_at.B48 = true := by kernel_rfl
def latheref14_at.T50 : Bool × List (List Nat × List Nat) := (true, [([], []), ([0], [0]), ([1], [1]), ([2], [2]), ([], []), ([], []), ([5], [5]), ([6], [6]), ([7], [7]), ([4, 8], [4, 8]), ([3, 9], [3, 9]), ([10, 10, 0, 1, 2, 3, 4, 5, 6, 7, 8, 9, 10], [10])])
def latheref14_at.B50 : List Nat := [0, 1, 3, 7, 0, 0, 32, 96, 224, 496, 1023, 2047]
theorem latheref14_at.tab50 : rtab .any (opsOf Tryd.f32 50) = latheref14_at.T50 := by kernel_rfl
theorem latheref14_at.bits50 : waitsOk latheref14_at.T50.2 latheref14_at.B50 = true := by kernel_rfl
def latheref14_at.T51 : Bool × List (List Nat × List Nat) := (true, [([], []), ([0], [0]), ([1], [1]), ([2], [2]), ([3], [3]), ([], []), ([], []), ([6], [6]), ([7], [7]), ([8], [8]), ([5, 9], [5, 9]), ([10, 4], [10]), ([4, 11, 11], [4, 11]), ([12, 12, 0, 1, 2, 3, 4, 5, 6, 7, 8, 9, 10, 11, 12], [12])])
def latheref14_at.B51 : List Nat := [0, 1, 3, 7, 15, 0, 0, 64, 192, 448, 992, 2047, 4095, 8191]
theorem latheref14_at.tab51 : rtab .any (opsOf Tryd.f32 51) = latheref14_at.T51 := by kernel_rfl
theorem latheref14_at.bits51 : waitsOk latheref14_at.T51.2 latheref14_at.B51 = true := by kernel_rfl
set_option maxHeartbeats 8000000 in
set_option maxRecDepth 100000 in
theorem latheref14_at.calls (k : Nat) : ∀ (a0_0 : Int) (A0_1 : Option Addr) (c0_1 : Nat) (l0_1 : List Int) (A0_2 : Option Addr) (c0_2 : Nat) (l0_2 : List Int) (A0_3 : Option Addr) (c0_3 : Nat) (l0_3 : List (S26)) (a1 : Int) (r : Int) (w : World) (hr0_1 : Kd.C (Kd.int .u32) w A0_1 l0_1.length l0_1) (hc0_1 : l0_1.length ≤ c0_1) (hr0_2 : Kd.C (Kd.int .i64) w A0_2 l0_2.length l0_2) (hc0_2 : l0_2.length ≤ c0_2) (hr0_3 : Kd.C k26 w A0_3 l0_3.length l0_3) (hc0_3 : l0_3.length ≤ c0_3) (h : latheref14_at.f k a0_0 l0_1 l0_2 l0_3 a1 = some r),
  Calls Tryd.prog 32 #[.agg #[.int .i64 a0_0, .slice A0_1 l0_1.length c0_1, .slice A0_2 l0_2.length c0_2, .slice A0_3 l0_3.length c0_3], .int .i64 a1] w fun e w' => e = .returned (.int .i64 r) ∧ Below w.heap.size w w' := by
 induction k using Nat.strongRecOn with
 | _ k ih =>
 intro a0_0 A0_1 c0_1 l0_1 A0_2 c0_2 l0_2 A0_3 c0_3 l0_3 a1 r w hr0_1 hc0_1 hr0_2 hc0_2 hr0_3 hc0_3 h
 cases k with
 | zero => exact absurd h (by simp [latheref14_at.f])
 | succ k =>
 simp only [latheref14_at.f] at h
 have hu26 := Tryd.underlying26
 have HR0_1 := Aside0.mk hr0_1
 have HC0_1 := Aside0.mk hc0_1
 clear hr0_1 hc0_1
 have HR0_2 := Aside0.mk hr0_2
 have HC0_2 := Aside0.mk hc0_2
 clear hr0_2 hc0_2
 have HR0_3 := Aside0.mk hr0_3
 have HC0_3 := Aside0.mk hc0_3
 clear hr0_3 hc0_3
 have HB := Aside0.mk (Below.refl w.heap.size w)
 have H : (latheref14_at.l0 k a1 ([] : List Int) 0 a0_0 l0_1 l0_2 l0_3) = some r := h
 clear h
 have H' := Aside0.mk H
 clear H
 go_enter Tryd.func32, Tryd.ntmps32
 go_wp2_with (first | ((with_reducible refine gate_dst (N := 2) rfl ?_); refine box_event ?hg (N := 2) ?hd (cs := #[.int .i64 a0_0, .slice A0_1 l0_1.length c0_1, .slice A0_2 l0_2.length c0_2, .slice A0_3 l0_3.length c0_3]) (t := 26) ?hr ?_; (case hd => rfl); (case hg => rfl); (case hr => first | (go_simp; done) | (go_simp; rfl)); intro gb449 hg w3 hbox hb; have BK449 := Aside0.mk (hbox); have GW449 := bsz (w := w) hg; have GE449 := bsz (w := w) hg; replace HB := bst hb; clear hb hbox hg))
 go_loopg [5, 6] k (fun kq v5 v6 w' => ∃ (x5_1 : List Int) (x6_1 : Int), v6 = .int .i64 x6_1 ∧ Aside0 (latheref14_at.l0 kq a1 x5_1 x6_1 a0_0 l0_1 l0_2 l0_3 = some r) ∧ Aside0 (kq ≤ k) ∧ Aside0 (Kd.R (Kd.int .i64) 3 w' w.heap.size (fun _ => True) v5 x5_1) ∧ Aside0 (w'.heap[gb449]? = some (.cells #[.int .i64 a0_0, (.slice A0_1 l0_1.length c0_1), (.slice A0_2 l0_2.length c0_2), (.slice A0_3 l0_3.length c0_3)] 26 (0, 0))) ∧ Aside0 (Below w.heap.size w w'))
 case atStart => exact ⟨(([] : List Int)), (0), id_, H', ⟨Nat.le_refl _⟩, ⟨by first | exact Kd.R_nil _ _ _ _ _ | exact Kd.N_nil _ _ _ _ _ | exact Kd.V_nil _ _ _ _ _ | exact Kd.Q_nil _ _ _ _ _ | exact Kd.S_nil _ _ _ _ _⟩, ⟨bkk⟩, ⟨hbb⟩⟩
 case round =>
  clear H'
  obtain ⟨x5_1, x6_1, rfl, HA, HK1, HO_5, BK449, HB⟩ := hrel
  cases gk with
  | zero => exact absurd HA.out (by simp [latheref14_at.l0])
  | succ k1 =>
   have H := HA.out
   clear HA
   simp only [latheref14_at.l0] at H
   by_cases c4 : x6_1 < (l0_1.length : Int)
   ·rw [if_pos c4] at H
    have c4b0 := decide_eq_true c4
    clear c4
    by_cases c5 : 0 ≤ x6_1
    rotate_left
    ·rw [if_neg c5] at H
     exact absurd H (by simp)
    rw [if_pos c5] at H
    have c5b0 := decide_eq_true c5
    clear c5
    by_cases c6 : x5_1.length < 17592186044416
    rotate_left
    ·rw [if_neg c6] at H
     exact absurd H (by simp)
    rw [if_pos c6] at H
    have LMc6 := Aside0.mk c6
    clear c6
    obtain ⟨y451, hy451⟩ : ∃ y_ : List Int, y_ = (x5_1 ++ [wrap64 (rd l0_1 x6_1)]) := ⟨_, rfl⟩
    replace H : (latheref14_at.l0 k1 a1 y451 (wrap64 (x6_1 + 1)) a0_0 l0_1 l0_2 l0_3) = some r := by first | (rw [hy451]; with_reducible exact H) | (have H2_ := (Option.bind_some _ _).symm.trans H; rw [hy451]; with_reducible exact H2_) | (have H2_ := (Option.bind_some _ _).symm.trans H; with_reducible exact H2_) | with_reducible exact H | (rw [hy451]; exact H) | exact H
    have Ny451 := Aside0.mk hy451
    clear hy451
    have H' := Aside0.mk H
    clear H
    obtain ⟨_, _, _, _, _, _, _, _⟩ := bx4 BK449.out
    have p450 : 0 ≤ (x6_1 : Int) := of_decide_eq_true as_
    have q450 : x6_1 < (l0_1.length : Int) := of_decide_eq_true as_
    obtain ⟨ad450, e450, hx450_0⟩ := Kd.at_int HR0_1.out x6_1 p450 q450
    cases e450
    replace hx450_0 := upc hx450_0
    replace p450 := eq_true p450
    replace q450 := eq_true q450
    go_wp2_with (first | ((with_reducible refine gate_builtin (b := .append) (xs := #[.tmp 27, .tmp 34]) rfl ?_); at_builtin; refine Kd.R_append (Kd.int .i64) (w0 := w) w.heap.size rfl (.tmp 27) (.tmp 34) 23 3 (.int .i64 0) 8 rfl Tryd.underlying23 info3 rfl (by decide) (by omega) u5 x5_1 (wrap64 (rd l0_1 x6_1)) [.int .i64 (wrap64 (rd l0_1 x6_1))] (fun _ => True) (fun _ => False) rfl rfl ?aP (fun _ hk => hk.elim) ?aF ?aO ?aB ?aS ?aL ?_; (case aP => exact rfl); (case aB => exact hbb); (case aF => exact (fun _ _ => trivial)); (case aO => exact (by (with_reducible repeat (first | apply Kd.R_alloc | apply Kd.R_drewN | apply Kd.R_drew)); exact HO_5.out)); (case aS => exact (below_size hbb)); (case aL => have := LMc6.out; omega); intro v452 w8 ho hb hg hat; rw [← Ny451.out] at ho; have HO453 := Aside0.mk (ho); replace BK449 := Aside0.mk (blk_grown (g := gb449) (o := .cells #[.int .i64 a0_0, .slice (some ad450) l0_1.length c0_1, .slice A0_2 l0_2.length c0_2, .slice A0_3 l0_3.length c0_3] 26 (0, 0)) bkk hg (Kd.R_ne HO_5.out BK449.out (by decide))); replace HB := Aside0.mk (hb); clear HO_5; clear ho hb hg hat))
    go_roundg k1
    case measure => have := HK1.out; omega
    case rel => exact ⟨(y451), (wrap64 (x6_1 + 1)), id_, H', ⟨by have := HK1.out; omega⟩, ⟨by (with_reducible repeat (first | apply Kd.R_alloc | apply Kd.R_drewN | apply Kd.R_drew)); exact HO453.out⟩, ⟨bkk⟩, ⟨hbb⟩⟩
   rw [if_neg c4] at H
   have c4b0 := decide_eq_false c4
   clear c4
   by_cases c9 : a0_0 = 1
   ·rw [if_pos c9] at H
    have c9b0 : (a0_0 == 1) = true := beq_iff_eq.mpr c9
    have c9b1 : (a0_0 != 1) = false := bne_eq_false_iff_eq.mpr c9
    clear c9
    by_cases c10 : 0 < (x5_1.length : Int)
    rotate_left
    ·rw [if_neg c10] at H
     exact absurd H (by simp)
    rw [if_pos c10] at H
    have c10b0 := decide_eq_true c10
    have c10b1 : decide (0 < x5_1.length) = true := decide_eq_true (by omega)
    clear c10
    obtain rfl := Option.some.inj H
    obtain ⟨_, _, _, _, _, _, _, _⟩ := bx4 BK449.out
    obtain ⟨Ao12, co12, eo12⟩ := Kd.R_slice HO_5.out
    subst eo12
    have p454 : 0 ≤ (0 : Int) := (by omega)
    have q454 : 0 < (x5_1.length : Int) := of_decide_eq_true as_
    obtain ⟨ad454, e454, hx454_0⟩ := Kd.at_int (Kd.R_reads' HO_5.out).2.2 0 p454 q454
    cases e454
    have qi454 : (0 < x5_1.length) = True := eq_true (by omega)
    rw [show ((0 : Int)).toNat = 0 from rfl] at hx454_0
    rw [Addr.add_zero'] at hx454_0
    replace p454 := eq_true p454
    replace q454 := eq_true q454
    go_wp2
    go_ret
    exact fin_
   rw [if_neg c9] at H
   have c9b0 : (a0_0 == 1) = false := beq_eq_false_iff_ne.mpr c9
   have c9b1 : (a0_0 != 1) = true := bne_iff_ne.mpr c9
   by_cases c13 : a0_0 = 2
   ·rw [if_pos c13] at H
    have c13b0 : (a0_0 == 2) = true := beq_iff_eq.mpr c13
    have c13b1 : (a0_0 != 2) = false := bne_eq_false_iff_eq.mpr c13
    clear c13
    by_cases c14 : 2 < (l0_2.length : Int)
    rotate_left
    ·rw [if_neg c14] at H
     exact absurd H (by simp)
    rw [if_pos c14] at H
    have c14b0 := decide_eq_true c14
    have c14b1 : decide (2 < l0_2.length) = true := decide_eq_true (by omega)
    clear c14
    obtain ⟨ji15, hji15⟩ : ∃ j_ : Int, (mx (wrap64 (a1 - (rd l0_2 2))) 0) = j_ := ⟨_, rfl⟩
    first | rw [hji15] at H | simp only [hji15] at H
    (have hji15l : 0 ≤ ji15 := by (rw [← hji15]; unfold mx; (repeat' split) <;> omega))
    (have hji15m : 0 ≤ ji15 := by omega)
    have hji15_ : (if (wrap64 (a1 - (rd l0_2 2))) < 0 then 0 else (wrap64 (a1 - (rd l0_2 2)))) = ji15 := hji15
    by_cases c16 : 1 < (l0_2.length : Int)
    rotate_left
    ·rw [if_neg c16] at H
     exact absurd H (by simp)
    rw [if_pos c16] at H
    have c16b0 := decide_eq_true c16
    have c16b1 : decide (1 < l0_2.length) = true := decide_eq_true (by omega)
    clear c16
    obtain ⟨ji17, hji17⟩ : ∃ j_ : Int, (mn (ji15) (rd l0_2 1)) = j_ := ⟨_, rfl⟩
    first | rw [hji17] at H | simp only [hji17] at H
    have hji17_ : (if (rd l0_2 1) < (ji15) then (rd l0_2 1) else (ji15)) = ji17 := hji17
    replace H := Option.bind_eq_some_iff.mp H
    obtain ⟨t457, A180, H⟩ := H
    have A18 := Aside0.mk A180
    clear A180
    replace H := Option.bind_eq_some_iff.mp H
    obtain ⟨t459, A190, H⟩ := H
    have A19 := Aside0.mk A190
    clear A190
    replace H := Option.bind_eq_some_iff.mp H
    obtain ⟨t460, A200, H⟩ := H
    have A20 := Aside0.mk A200
    clear A200
    replace H := Option.bind_eq_some_iff.mp H
    obtain ⟨t461, A210, H⟩ := H
    have A21 := Aside0.mk A210
    clear A210
    by_cases c22 : 0 < (x5_1.length : Int)
    rotate_left
    ·rw [if_neg c22] at H
     exact absurd H (by simp)
    rw [if_pos c22] at H
    have c22b0 := decide_eq_true c22
    have c22b1 : decide (0 < x5_1.length) = true := decide_eq_true (by omega)
    clear c22
    by_cases c23 : 1 < (x5_1.length : Int)
    rotate_left
    ·rw [if_neg c23] at H
     exact absurd H (by simp)
    rw [if_pos c23] at H
    have c23b0 := decide_eq_true c23
    have c23b1 : decide (1 < x5_1.length) = true := decide_eq_true (by omega)
    clear c23
    replace H := Option.bind_eq_some_iff.mp H
    obtain ⟨t464, A240, H⟩ := H
    have A24 := Aside0.mk A240
    clear A240
    by_cases c25 : 0 < (l0_2.length : Int)
    rotate_left
    ·rw [if_neg c25] at H
     exact absurd H (by simp)
    rw [if_pos c25] at H
    have c25b0 := decide_eq_true c25
    have c25b1 : decide (0 < l0_2.length) = true := decide_eq_true (by omega)
    clear c25
    replace H := Option.bind_eq_some_iff.mp H
    obtain ⟨t466, A260, H⟩ := H
    have A26 := Aside0.mk A260
    clear A260
    replace H := Option.bind_eq_some_iff.mp H
    obtain ⟨t467, A270, H⟩ := H
    have A27 := Aside0.mk A270
    clear A270
    replace H := Option.bind_eq_some_iff.mp H
    obtain ⟨t469, A280, H⟩ := H
    have A28 := Aside0.mk A280
    clear A280
    obtain rfl := Option.some.inj H
    obtain ⟨_, _, _, _, _, _, _, _⟩ := bx4 BK449.out
    try go_wp2
    replace HO_5 := Aside0.mk (Kd.R_drew HO_5.out)
    replace BK449 := Aside0.mk (blk_drew BK449.out)
    replace HB := Aside0.mk (below_drew1 HB.out)
    have p455 : 0 ≤ (2 : Int) := (by omega)
    have q455 : 2 < (l0_2.length : Int) := of_decide_eq_true as_
    obtain ⟨ad455, e455, hx455_0⟩ := Kd.at_int HR0_2.out 2 p455 q455
    have hw455_0 := hx455_0
    rw [show ((2 : Int)).toNat = 2 from rfl] at hw455_0
    simp only [Nat.reduceMul, Nat.reduceEqDiff, Go.Addr.add, ↓reduceIte] at hw455_0
    cases e455
    simp only [show (2 : Int).toNat = 2 from rfl, Nat.reduceMul, Nat.reduceEqDiff, Go.Addr.add, ↓reduceIte] at hx455_0
    have qi455 : (2 < l0_2.length) = True := eq_true (by omega)
    replace hx455_0 := upc hx455_0
    replace p455 := eq_true p455
    replace q455 := eq_true q455
    have p456 : 0 ≤ (1 : Int) := (by omega)
    have q456 : 1 < (l0_2.length : Int) := of_decide_eq_true as_
    obtain ⟨ad456, e456, hx456_0⟩ := Kd.at_int HR0_2.out 1 p456 q456
    have hw456_0 := hx456_0
    rw [show ((1 : Int)).toNat = 1 from rfl] at hw456_0
    simp only [Nat.reduceMul, Nat.reduceEqDiff, Go.Addr.add, ↓reduceIte] at hw456_0
    obtain rfl : ad455 = ad456 := (by injection e456)
    simp only [show (1 : Int).toNat = 1 from rfl, Nat.reduceMul, Nat.reduceEqDiff, Go.Addr.add, ↓reduceIte] at hx456_0
    have qi456 : (1 < l0_2.length) = True := eq_true (by omega)
    replace hx456_0 := upc hx456_0
    replace p456 := eq_true p456
    replace q456 := eq_true q456
    refine st (S := fun w' => w'.cell? ⟨gb449, 0, none⟩ = some (.int .i64 a0_0) ∧ w'.cell? ⟨gb449, 1, none⟩ = some (.slice A0_1 l0_1.length c0_1) ∧ w'.cell? ⟨gb449, 2, none⟩ = some (.slice (some ad455) l0_2.length c0_2) ∧ w'.cell? ⟨gb449, 3, none⟩ = some (.slice A0_3 l0_3.length c0_3) ∧ w'.cell? ⟨ad455.block, ad455.off + 2, none⟩ = some (.int .i64 (rd l0_2 2)) ∧ w'.cell? ⟨ad455.block, ad455.off + 1, none⟩ = some (.int .i64 (rd l0_2 1))) (ds := []) (fun hHeld => ?_); refine with_tabW latheref14_at.tab10 latheref14_at.bits10 (fun HT_ HW_ => ?_)
    generalize wr.drew = w30 at HO_5 BK449 HB hx455_0 hx456_0 hHeld ⊢
    refine pu (i := 0) (N := some 45) ?_
    refine pu (i := 1) (N := some 46) ?_
    refine pu (i := 7) (N := some 52) ?_
    refine tk (i := 2) (N := some 47) ?_
    refine pu (i := 3) (N := some 48) ?_
    refine tk (i := 4) (N := some 49) ?_
    refine pu (i := 5) (N := some 50) ?_
    refine pu (i := 6) (N := some 51) ?_
    refine tk (i := 8) (N := some 53) ?_
    refine pu (i := 9) (N := some 54) ?_
    refine tk (i := 10) (N := some 55) ?_
    refine pu (i := 11) (N := some 56) ?_
    refine pu (i := 12) (N := some 7) ?_
    refine done_ (done_of HT_.out (by kernel_rfl)) ?_
    try go_wp2
    replace HO_5 := Aside0.mk (Kd.R_drew HO_5.out)
    replace BK449 := Aside0.mk (blk_drew BK449.out)
    replace HB := Aside0.mk (below_drew1 HB.out)
    have p458 : 0 ≤ (1 : Int) := (by omega)
    have q458 : 1 < (l0_2.length : Int) := of_decide_eq_true as_
    obtain ⟨ad458, e458, hx458_0⟩ := Kd.at_int HR0_2.out 1 p458 q458
    have hw458_0 := hx458_0
    rw [show ((1 : Int)).toNat = 1 from rfl] at hw458_0
    simp only [Nat.reduceMul, Nat.reduceEqDiff, Go.Addr.add, ↓reduceIte] at hw458_0
    obtain rfl : ad455 = ad458 := (by injection e458)
    simp only [show (1 : Int).toNat = 1 from rfl, Nat.reduceMul, Nat.reduceEqDiff, Go.Addr.add, ↓reduceIte] at hx458_0
    have qi458 : (1 < l0_2.length) = True := eq_true (by omega)
    replace hx458_0 := upc hx458_0
    replace p458 := eq_true p458
    replace q458 := eq_true q458
    refine st (S := fun w' => w'.cell? ⟨gb449, 0, none⟩ = some (.int .i64 a0_0) ∧ w'.cell? ⟨gb449, 1, none⟩ = some (.slice A0_1 l0_1.length c0_1) ∧ w'.cell? ⟨gb449, 2, none⟩ = some (.slice (some ad455) l0_2.length c0_2) ∧ w'.cell? ⟨gb449, 3, none⟩ = some (.slice A0_3 l0_3.length c0_3) ∧ w'.cell? ⟨ad455.block, ad455.off + 1, none⟩ = some (.int .i64 (rd l0_2 1))) (ds := []) (fun hHeld => ?_); refine with_tabW latheref14_at.tab11 latheref14_at.bits11 (fun HT_ HW_ => ?_)
    generalize w30.drew = w31 at HO_5 BK449 HB hx458_0 hHeld ⊢
    refine pu (i := 0) (N := some 57) ?_
    refine pu (i := 2) (N := some 59) ?_
    refine tk (i := 3) (N := some 60) ?_
    refine pu (i := 4) (N := some 61) ?_
    refine tk (i := 5) (N := some 62) ?_
    refine on (i := 1) (N := some 58) (fun K hK => ?_)
    refine goes_ Tryd.func59 (by kernel_rfl) rfl #[.int .i64 ji17] (by rfl) rfl rfl (by (try simp only [List.map_toArray, List.map_cons, List.map_nil]); first | done | (simp only [hji17]; rfl) | rfl | (simp only [List.length_drop, List.length_take]; rfl)) ?_
    with_reducible refine (latheref02_FromInt.calls k1 ji17 t457 _ A18.out).mono ?_
    rintro e w32 ⟨rfl, hb⟩
    refine ⟨_, rfl, ?_⟩
    replace HO_5 := ros HO_5 hb
    replace BK449 := bks BK449 hb
    replace HB := bst hb
    clear hb
    refine nx hK.out (fun hHeld => ?_)
    refine on (i := 6) (N := some 63) (fun K hK => ?_)
    refine gB Tryd.func59 (latheref02_FromInt.calls k1 (rd l0_2 1) t459 _ A19.out) (fun w33 hb => ?_)
    replace HO_5 := ros HO_5 hb
    replace BK449 := bks BK449 hb
    replace HB := bst hb
    clear hb
    refine nx hK.out (fun hHeld => ?_)
    refine on (i := 7) (N := some 64) (fun K hK => ?_)
    refine gB Tryd.func58 (latheref02_Div.calls k1 t457 t459 t460 _ A20.out) (fun w34 hb => ?_)
    replace HO_5 := ros HO_5 hb
    replace BK449 := bks BK449 hb
    replace HB := bst hb
    clear hb
    refine nx hK.out (fun hHeld => ?_)
    refine on (i := 8) (N := some 65) (fun K hK => ?_)
    refine gB Tryd.func22 (latheref02_Sub.calls k1 1065353216 t460 t461 _ A21.out) (fun w35 hb => ?_)
    replace HO_5 := ros HO_5 hb
    replace BK449 := bks BK449 hb
    replace HB := bst hb
    clear hb
    refine nx hK.out (fun hHeld => ?_)
    refine pu (i := 9) (N := some 8) ?_
    refine done_ (done_of HT_.out (by kernel_rfl)) ?_
    try go_wp2
    replace HO_5 := Aside0.mk (Kd.R_drew HO_5.out)
    replace BK449 := Aside0.mk (blk_drew BK449.out)
    replace HB := Aside0.mk (below_drew1 HB.out)
    obtain ⟨Ao37, co37, eo37⟩ := Kd.R_slice HO_5.out
    (first | subst eo37 | (injection eo37 with f1_ f2_ f3_; have f4_ := f1_.symm; have f5_ := f3_.symm; clear f1_ f2_ f3_; subst f4_; subst f5_))
    have p462 : 0 ≤ (0 : Int) := (by omega)
    have q462 : 0 < (x5_1.length : Int) := of_decide_eq_true as_
    obtain ⟨ad462, e462, hx462_0⟩ := Kd.at_int (Kd.R_reads' HO_5.out).2.2 0 p462 q462
    cases e462
    have qi462 : (0 < x5_1.length) = True := eq_true (by omega)
    rw [show ((0 : Int)).toNat = 0 from rfl] at hx462_0
    rw [Addr.add_zero'] at hx462_0
    replace p462 := eq_true p462
    replace q462 := eq_true q462
    have p463 : 0 ≤ (1 : Int) := (by omega)
    have q463 : 1 < (x5_1.length : Int) := of_decide_eq_true as_
    obtain ⟨ad463, e463, hx463_0⟩ := Kd.at_int (Kd.R_reads' HO_5.out).2.2 1 p463 q463
    obtain rfl : ad462 = ad463 := (by injection e463)
    simp only [show (1 : Int).toNat = 1 from rfl, Nat.reduceMul, Nat.reduceEqDiff, Go.Addr.add, ↓reduceIte] at hx463_0
    have qi463 : (1 < x5_1.length) = True := eq_true (by omega)
    replace p463 := eq_true p463
    replace q463 := eq_true q463
    refine start_ (n := 8) (S := fun w' => w'.cell? ad462 = some (.int .i64 (rd x5_1 0)) ∧ w'.cell? ⟨ad462.block, ad462.off + 1, none⟩ = some (.int .i64 (rd x5_1 1))) (ds := []) #[false, false, false, false, false, false, false, false] (by kernel_rfl) rfl rfl ⟨hx462_0, hx463_0⟩ (fun hHeld => ?_); refine with_tabW latheref14_at.tab12 latheref14_at.bits12 (fun HT_ HW_ => ?_)
    generalize w35.drew = w36 at HO_5 BK449 HB hx462_0 hx463_0 hHeld ⊢
    refine pu (i := 0) (N := some 66) ?_
    refine pu (i := 1) (N := some 67) ?_
    refine pu (i := 3) (N := some 69) ?_
    refine pu (i := 4) (N := some 70) ?_
    refine tk (i := 2) (N := some 68) ?_
    refine tk (i := 5) (N := some 71) ?_
    refine on (i := 6) (N := some 72) (fun K hK => ?_)
    refine gA Tryd.func22 #[.int .i64 (rd x5_1 0), .int .i64 (rd x5_1 1)] ?_
    with_reducible refine (latheref02_Sub.calls k1 (rd x5_1 0) (rd x5_1 1) t464 _ A24.out).mono ?_
    rintro e w38 ⟨rfl, hb⟩
    have HS0_ := (hb.cell (World.block_lt_of_cell? _ _ (hHeld.1))).trans (hHeld.1)
    have HS1_ := (hb.cell (World.block_lt_of_cell? _ _ (hHeld.2))).trans (hHeld.2)
    refine ⟨_, rfl, ?_⟩
    replace HO_5 := ros HO_5 hb
    replace BK449 := bks BK449 hb
    replace HB := bst hb
    clear hb
    refine nxt hK.out ⟨HS0_, HS1_⟩ (fun hHeld => ?_)
    refine pu (i := 7) (N := some 9) ?_
    refine done_ (done_of HT_.out (by kernel_rfl)) ?_
    try go_wp2
    replace HO_5 := Aside0.mk (Kd.R_drew HO_5.out)
    replace BK449 := Aside0.mk (blk_drew BK449.out)
    replace HB := Aside0.mk (below_drew1 HB.out)
    have p465 : 0 ≤ (0 : Int) := (by omega)
    have q465 : 0 < (l0_2.length : Int) := of_decide_eq_true as_
    obtain ⟨ad465, e465, hx465_0⟩ := Kd.at_int HR0_2.out 0 p465 q465
    have hw465_0 := hx465_0
    rw [show ((0 : Int)).toNat = 0 from rfl] at hw465_0
    rw [Addr.add_zero'] at hw465_0
    obtain rfl : ad455 = ad465 := (by injection e465)
    have qi465 : (0 < l0_2.length) = True := eq_true (by omega)
    rw [show ((0 : Int)).toNat = 0 from rfl] at hx465_0
    rw [Addr.add_zero'] at hx465_0
    replace hx465_0 := upc hx465_0
    replace p465 := eq_true p465
    replace q465 := eq_true q465
    have p468 : 0 ≤ (1 : Int) := (by omega)
    have q468 : 1 < (x5_1.length : Int) := of_decide_eq_true as_
    obtain ⟨ad468, e468, hx468_0⟩ := Kd.at_int (Kd.R_reads' HO_5.out).2.2 1 p468 q468
    obtain rfl : ad462 = ad468 := (by injection e468)
    simp only [show (1 : Int).toNat = 1 from rfl, Nat.reduceMul, Nat.reduceEqDiff, Go.Addr.add, ↓reduceIte] at hx468_0
    have qi468 : (1 < x5_1.length) = True := eq_true (by omega)
    replace p468 := eq_true p468
    replace q468 := eq_true q468
    refine start_ (n := 13) (S := fun w' => w'.cell? ⟨gb449, 0, none⟩ = some (.int .i64 a0_0) ∧ w'.cell? ⟨gb449, 1, none⟩ = some (.slice A0_1 l0_1.length c0_1) ∧ w'.cell? ⟨gb449, 2, none⟩ = some (.slice (some ad455) l0_2.length c0_2) ∧ w'.cell? ⟨gb449, 3, none⟩ = some (.slice A0_3 l0_3.length c0_3) ∧ w'.cell? ad455 = some (.int .i64 (rd l0_2 0)) ∧ w'.cell? ⟨ad462.block, ad462.off + 1, none⟩ = some (.int .i64 (rd x5_1 1))) (ds := []) #[false, false, false, false, false, false, false, false, false, false, false, false, false] (by kernel_rfl) rfl rfl ⟨(blk_cell BK449.out 0).trans rfl, (blk_cell BK449.out 1).trans rfl, (blk_cell BK449.out 2).trans rfl, (blk_cell BK449.out 3).trans rfl, ((HB.out.cell (World.block_lt_of_cell? w _ hw465_0)).trans hw465_0), hx468_0⟩ (fun hHeld => ?_); refine with_tabW latheref14_at.tab13 latheref14_at.bits13 (fun HT_ HW_ => ?_)
    generalize w38.drew = w39 at HO_5 BK449 HB hx465_0 hx468_0 hHeld ⊢
    refine pu (i := 0) (N := some 73) ?_
    refine pu (i := 1) (N := some 74) ?_
    refine pu (i := 2) (N := some 75) ?_
    refine pu (i := 8) (N := some 81) ?_
    refine pu (i := 9) (N := some 82) ?_
    refine tk (i := 3) (N := some 76) ?_
    refine pu (i := 4) (N := some 77) ?_
    refine tk (i := 5) (N := some 78) ?_
    refine tk (i := 10) (N := some 83) ?_
    refine on (i := 6) (N := some 79) (fun K hK => ?_)
    refine gA Tryd.func60 #[.int .i64 t461, .int .i64 (rd l0_2 0)] ?_
    with_reducible refine (latheref02_Power.calls k1 t461 (rd l0_2 0) t466 _ A26.out).mono ?_
    rintro e w40 ⟨rfl, hb⟩
    have HS5_ := (hb.cell (World.block_lt_of_cell? _ _ (hHeld.2.2.2.2.2))).trans (hHeld.2.2.2.2.2)
    refine ⟨_, rfl, ?_⟩
    replace HO_5 := ros HO_5 hb
    replace BK449 := bks BK449 hb
    replace HB := bst hb
    clear hb
    refine nxt hK.out ⟨(blk_cell BK449.out 0).trans rfl, (blk_cell BK449.out 1).trans rfl, (blk_cell BK449.out 2).trans rfl, (blk_cell BK449.out 3).trans rfl, ((HB.out.cell (World.block_lt_of_cell? w _ hw465_0)).trans hw465_0), HS5_⟩ (fun hHeld => ?_)
    refine on (i := 7) (N := some 80) (fun K hK => ?_)
    refine gA Tryd.func27 #[.int .i64 t464, .int .i64 t466] ?_
    with_reducible refine (latheref02_Mul.calls k1 t464 t466 t467 _ A27.out).mono ?_
    rintro e w41 ⟨rfl, hb⟩
    have HS5_ := (hb.cell (World.block_lt_of_cell? _ _ (hHeld.2.2.2.2.2))).trans (hHeld.2.2.2.2.2)
    refine ⟨_, rfl, ?_⟩
    replace HO_5 := ros HO_5 hb
    replace BK449 := bks BK449 hb
    replace HB := bst hb
    clear hb
    refine nxt hK.out ⟨(blk_cell BK449.out 0).trans rfl, (blk_cell BK449.out 1).trans rfl, (blk_cell BK449.out 2).trans rfl, (blk_cell BK449.out 3).trans rfl, ((HB.out.cell (World.block_lt_of_cell? w _ hw465_0)).trans hw465_0), HS5_⟩ (fun hHeld => ?_)
    refine on (i := 11) (N := some 84) (fun K hK => ?_)
    refine gA Tryd.func26 #[.int .i64 t467, .int .i64 (rd x5_1 1)] ?_
    with_reducible refine (latheref02_Add.calls k1 t467 (rd x5_1 1) t469 _ A28.out).mono ?_
    rintro e w42 ⟨rfl, hb⟩
    have HS5_ := (hb.cell (World.block_lt_of_cell? _ _ (hHeld.2.2.2.2.2))).trans (hHeld.2.2.2.2.2)
    refine ⟨_, rfl, ?_⟩
    replace HO_5 := ros HO_5 hb
    replace BK449 := bks BK449 hb
    replace HB := bst hb
    clear hb
    refine nxt hK.out ⟨(blk_cell BK449.out 0).trans rfl, (blk_cell BK449.out 1).trans rfl, (blk_cell BK449.out 2).trans rfl, (blk_cell BK449.out 3).trans rfl, ((HB.out.cell (World.block_lt_of_cell? w _ hw465_0)).trans hw465_0), HS5_⟩ (fun hHeld => ?_)
    refine pu (i := 12) (N := some 4) ?_
    refine done_ (done_of HT_.out (by kernel_rfl)) ?_
    try go_wp2
    go_ret
    exact ⟨by first | rfl | (simp [errW_none, errW_some] <;> rfl) | (simp only [← hji15, ← hji17]; first | rfl | (simp [errW_none, errW_some] <;> rfl)) | (simp [*, errW_none, errW_some] <;> rfl), by repeat (first | (with_reducible first | exact HB.out | apply below_alloc | apply pw_below_drewN | apply below_drew1 | refine below_set ?_ GE449.out) | exact HB.out)⟩
   rw [if_neg c13] at H
   have c13b0 : (a0_0 == 2) = false := beq_eq_false_iff_ne.mpr c13
   have c13b1 : (a0_0 != 2) = true := bne_iff_ne.mpr c13
   by_cases c43 : a0_0 = 3
   ·rw [if_pos c43] at H
    have c43b0 : (a0_0 == 3) = true := beq_iff_eq.mpr c43
    have c43b1 : (a0_0 != 3) = false := bne_eq_false_iff_eq.mpr c43
    clear c43
    by_cases c44 : 1 < (l0_2.length : Int)
    rotate_left
    ·rw [if_neg c44] at H
     exact absurd H (by simp)
    rw [if_pos c44] at H
    have c44b0 := decide_eq_true c44
    have c44b1 : decide (1 < l0_2.length) = true := decide_eq_true (by omega)
    clear c44
    obtain ⟨ji45, hji45⟩ : ∃ j_ : Int, (mx (wrap64 (a1 - (rd l0_2 1))) 0) = j_ := ⟨_, rfl⟩
    first | rw [hji45] at H | simp only [hji45] at H
    (have hji45l : 0 ≤ ji45 := by (rw [← hji45]; unfold mx; (repeat' split) <;> omega))
    (have hji45m : 0 ≤ ji45 := by omega)
    have hji45_ : (if (wrap64 (a1 - (rd l0_2 1))) < 0 then 0 else (wrap64 (a1 - (rd l0_2 1)))) = ji45 := hji45
    by_cases c46 : 0 < (l0_2.length : Int)
    rotate_left
    ·rw [if_neg c46] at H
     exact absurd H (by simp)
    rw [if_pos c46] at H
    have c46b0 := decide_eq_true c46
    have c46b1 : decide (0 < l0_2.length) = true := decide_eq_true (by omega)
    clear c46
    by_cases c47 : (rd l0_2 0) = 0
    ·rw [if_pos c47] at H
     exact absurd H (by simp)
    rw [if_neg c47] at H
    have c47b0 : ((rd l0_2 0) == 0) = false := beq_eq_false_iff_ne.mpr c47
    have c47b1 : ((rd l0_2 0) != 0) = true := bne_iff_ne.mpr c47
    by_cases c48 : 0 < (x5_1.length : Int)
    rotate_left
    ·rw [if_neg c48] at H
     exact absurd H (by simp)
    rw [if_pos c48] at H
    have c48b0 := decide_eq_true c48
    have c48b1 : decide (0 < x5_1.length) = true := decide_eq_true (by omega)
    clear c48
    by_cases c49 : 1 < (x5_1.length : Int)
    rotate_left
    ·rw [if_neg c49] at H
     exact absurd H (by simp)
    rw [if_pos c49] at H
    have c49b0 := decide_eq_true c49
    have c49b1 : decide (1 < x5_1.length) = true := decide_eq_true (by omega)
    clear c49
    replace H := Option.bind_eq_some_iff.mp H
    obtain ⟨t474, A500, H⟩ := H
    have A50 := Aside0.mk A500
    clear A500
    replace H := Option.bind_eq_some_iff.mp H
    obtain ⟨t475, A510, H⟩ := H
    have A51 := Aside0.mk A510
    clear A510
    obtain rfl := Option.some.inj H
    obtain ⟨_, _, _, _, _, _, _, _⟩ := bx4 BK449.out
    try go_wp2
    replace HO_5 := Aside0.mk (Kd.R_drew HO_5.out)
    replace BK449 := Aside0.mk (blk_drew BK449.out)
    replace HB := Aside0.mk (below_drew1 HB.out)
    have p470 : 0 ≤ (1 : Int) := (by omega)
    have q470 : 1 < (l0_2.length : Int) := of_decide_eq_true as_
    obtain ⟨ad470, e470, hx470_0⟩ := Kd.at_int HR0_2.out 1 p470 q470
    have hw470_0 := hx470_0
    rw [show ((1 : Int)).toNat = 1 from rfl] at hw470_0
    simp only [Nat.reduceMul, Nat.reduceEqDiff, Go.Addr.add, ↓reduceIte] at hw470_0
    cases e470
    simp only [show (1 : Int).toNat = 1 from rfl, Nat.reduceMul, Nat.reduceEqDiff, Go.Addr.add, ↓reduceIte] at hx470_0
    have qi470 : (1 < l0_2.length) = True := eq_true (by omega)
    replace hx470_0 := upc hx470_0
    replace p470 := eq_true p470
    replace q470 := eq_true q470
    have p471 : 0 ≤ (0 : Int) := (by omega)
    have q471 : 0 < (l0_2.length : Int) := of_decide_eq_true as_
    obtain ⟨ad471, e471, hx471_0⟩ := Kd.at_int HR0_2.out 0 p471 q471
    have hw471_0 := hx471_0
    rw [show ((0 : Int)).toNat = 0 from rfl] at hw471_0
    rw [Addr.add_zero'] at hw471_0
    obtain rfl : ad470 = ad471 := (by injection e471)
    have qi471 : (0 < l0_2.length) = True := eq_true (by omega)
    rw [show ((0 : Int)).toNat = 0 from rfl] at hx471_0
    rw [Addr.add_zero'] at hx471_0
    replace hx471_0 := upc hx471_0
    replace p471 := eq_true p471
    replace q471 := eq_true q471
    refine st (S := fun w' => w'.cell? ⟨gb449, 0, none⟩ = some (.int .i64 a0_0) ∧ w'.cell? ⟨gb449, 1, none⟩ = some (.slice A0_1 l0_1.length c0_1) ∧ w'.cell? ⟨gb449, 2, none⟩ = some (.slice (some ad470) l0_2.length c0_2) ∧ w'.cell? ⟨gb449, 3, none⟩ = some (.slice A0_3 l0_3.length c0_3) ∧ w'.cell? ⟨ad470.block, ad470.off + 1, none⟩ = some (.int .i64 (rd l0_2 1)) ∧ w'.cell? ad470 = some (.int .i64 (rd l0_2 0))) (ds := []) (fun hHeld => ?_); refine with_tabW latheref14_at.tab15 latheref14_at.bits15 (fun HT_ HW_ => ?_)
    generalize wr.drew = w53 at HO_5 BK449 HB hx470_0 hx471_0 hHeld ⊢
    refine pu (i := 0) (N := some 87) ?_
    refine pu (i := 1) (N := some 88) ?_
    refine pu (i := 7) (N := some 94) ?_
    refine tk (i := 2) (N := some 89) ?_
    refine pu (i := 3) (N := some 90) ?_
    refine tk (i := 4) (N := some 91) ?_
    refine pu (i := 5) (N := some 92) ?_
    refine pu (i := 6) (N := some 93) ?_
    refine tk (i := 8) (N := some 95) ?_
    refine pu (i := 9) (N := some 96) ?_
    refine tk (i := 10) (N := some 97) ?_
    refine pu (i := 11) (N := some 98) ?_
    refine pu (i := 12) (N := some 10) ?_
    refine done_ (done_of HT_.out (by kernel_rfl)) ?_
    try go_wp2
    replace HO_5 := Aside0.mk (Kd.R_drew HO_5.out)
    replace BK449 := Aside0.mk (blk_drew BK449.out)
    replace HB := Aside0.mk (below_drew1 HB.out)
    obtain ⟨Ao55, co55, eo55⟩ := Kd.R_slice HO_5.out
    (first | subst eo55 | (injection eo55 with f1_ f2_ f3_; have f4_ := f1_.symm; have f5_ := f3_.symm; clear f1_ f2_ f3_; subst f4_; subst f5_))
    have p472 : 0 ≤ (0 : Int) := (by omega)
    have q472 : 0 < (x5_1.length : Int) := of_decide_eq_true as_
    obtain ⟨ad472, e472, hx472_0⟩ := Kd.at_int (Kd.R_reads' HO_5.out).2.2 0 p472 q472
    cases e472
    have qi472 : (0 < x5_1.length) = True := eq_true (by omega)
    rw [show ((0 : Int)).toNat = 0 from rfl] at hx472_0
    rw [Addr.add_zero'] at hx472_0
    replace p472 := eq_true p472
    replace q472 := eq_true q472
    have p473 : 0 ≤ (1 : Int) := (by omega)
    have q473 : 1 < (x5_1.length : Int) := of_decide_eq_true as_
    obtain ⟨ad473, e473, hx473_0⟩ := Kd.at_int (Kd.R_reads' HO_5.out).2.2 1 p473 q473
    obtain rfl : ad472 = ad473 := (by injection e473)
    simp only [show (1 : Int).toNat = 1 from rfl, Nat.reduceMul, Nat.reduceEqDiff, Go.Addr.add, ↓reduceIte] at hx473_0
    have qi473 : (1 < x5_1.length) = True := eq_true (by omega)
    replace p473 := eq_true p473
    replace q473 := eq_true q473
    refine start_ (n := 10) (S := fun w' => w'.cell? ad472 = some (.int .i64 (rd x5_1 0)) ∧ w'.cell? ⟨ad472.block, ad472.off + 1, none⟩ = some (.int .i64 (rd x5_1 1))) (ds := []) #[false, false, false, false, false, false, false, false, false, false] (by kernel_rfl) rfl rfl ⟨hx472_0, hx473_0⟩ (fun hHeld => ?_); refine with_tabW latheref14_at.tab16 latheref14_at.bits16 (fun HT_ HW_ => ?_)
    generalize w53.drew = w54 at HO_5 BK449 HB hx472_0 hx473_0 hHeld ⊢
    refine pu (i := 0) (N := some 99) ?_
    refine pu (i := 1) (N := some 100) ?_
    refine pu (i := 3) (N := some 102) ?_
    refine pu (i := 4) (N := some 103) ?_
    refine pu (i := 6) (N := some 105) ?_
    refine tk (i := 2) (N := some 101) ?_
    refine tk (i := 5) (N := some 104) ?_
    refine on (i := 7) (N := some 106) (fun K hK => ?_)
    refine goes_ Tryd.func60 (by kernel_rfl) rfl #[.int .i64 (rd x5_1 1), .int .i64 (wrap64 ((ji45) / (rd l0_2 0)))] (by rfl) rfl rfl (by (try simp only [List.map_toArray, List.map_cons, List.map_nil]); first | done | (simp only [hji45]; rfl) | rfl | (simp only [hji45_]; rfl) | (simp only [i64_w, hji45_]; rfl) | (simp only [i64_w, hji45_, Int.tdiv_eq_ediv_of_nonneg hji45l]; rfl) | (simp only [Int.tdiv_eq_ediv_of_nonneg hji45l]; rfl) | (simp only [List.length_drop, List.length_take]; rfl)) ?_
    with_reducible refine (latheref02_Power.calls k1 (rd x5_1 1) (wrap64 ((ji45) / (rd l0_2 0))) t474 _ A50.out).mono ?_
    rintro e w56 ⟨rfl, hb⟩
    have HS0_ := (hb.cell (World.block_lt_of_cell? _ _ (hHeld.1))).trans (hHeld.1)
    have HS1_ := (hb.cell (World.block_lt_of_cell? _ _ (hHeld.2))).trans (hHeld.2)
    refine ⟨_, rfl, ?_⟩
    replace HO_5 := ros HO_5 hb
    replace BK449 := bks BK449 hb
    replace HB := bst hb
    clear hb
    refine nxt hK.out ⟨HS0_, HS1_⟩ (fun hHeld => ?_)
    refine on (i := 8) (N := some 107) (fun K hK => ?_)
    refine gA Tryd.func27 #[.int .i64 (rd x5_1 0), .int .i64 t474] ?_
    with_reducible refine (latheref02_Mul.calls k1 (rd x5_1 0) t474 t475 _ A51.out).mono ?_
    rintro e w57 ⟨rfl, hb⟩
    have HS0_ := (hb.cell (World.block_lt_of_cell? _ _ (hHeld.1))).trans (hHeld.1)
    have HS1_ := (hb.cell (World.block_lt_of_cell? _ _ (hHeld.2))).trans (hHeld.2)
    refine ⟨_, rfl, ?_⟩
    replace HO_5 := ros HO_5 hb
    replace BK449 := bks BK449 hb
    replace HB := bst hb
    clear hb
    refine nxt hK.out ⟨HS0_, HS1_⟩ (fun hHeld => ?_)
    refine pu (i := 9) (N := some 4) ?_
    refine done_ (done_of HT_.out (by kernel_rfl)) ?_
    try go_wp2
    go_ret
    exact ⟨by first | rfl | (simp [errW_none, errW_some] <;> rfl) | (simp only [← hji45]; first | rfl | (simp [errW_none, errW_some] <;> rfl)) | (simp [*, errW_none, errW_some] <;> rfl), by repeat (first | (with_reducible first | exact HB.out | apply below_alloc | apply pw_below_drewN | apply below_drew1 | refine below_set ?_ GE449.out) | exact HB.out)⟩
   rw [if_neg c43] at H
   have c43b0 : (a0_0 == 3) = false := beq_eq_false_iff_ne.mpr c43
   have c43b1 : (a0_0 != 3) = true := bne_iff_ne.mpr c43
   by_cases c58 : a0_0 = 4
   ·rw [if_pos c58] at H
    have c58b0 : (a0_0 == 4) = true := beq_iff_eq.mpr c58
    have c58b1 : (a0_0 != 4) = false := bne_eq_false_iff_eq.mpr c58
    clear c58
    by_cases c59 : 0 < (l0_2.length : Int)
    rotate_left
    ·rw [if_neg c59] at H
     exact absurd H (by simp)
    rw [if_pos c59] at H
    have c59b0 := decide_eq_true c59
    have c59b1 : decide (0 < l0_2.length) = true := decide_eq_true (by omega)
    clear c59
    obtain ⟨ji60, hji60⟩ : ∃ j_ : Int, (mn a1 (rd l0_2 0)) = j_ := ⟨_, rfl⟩
    first | rw [hji60] at H | simp only [hji60] at H
    have hji60_ : (if (rd l0_2 0) < a1 then (rd l0_2 0) else a1) = ji60 := hji60
    replace H := Option.bind_eq_some_iff.mp H
    obtain ⟨t477, A610, H⟩ := H
    have A61 := Aside0.mk A610
    clear A610
    replace H := Option.bind_eq_some_iff.mp H
    obtain ⟨t479, A620, H⟩ := H
    have A62 := Aside0.mk A620
    clear A620
    replace H := Option.bind_eq_some_iff.mp H
    obtain ⟨t480, A630, H⟩ := H
    have A63 := Aside0.mk A630
    clear A630
    replace H := Option.bind_eq_some_iff.mp H
    obtain ⟨t481, A640, H⟩ := H
    have A64 := Aside0.mk A640
    clear A640
    replace H := Option.bind_eq_some_iff.mp H
    obtain ⟨t482, A650, H⟩ := H
    have A65 := Aside0.mk A650
    clear A650
    replace H := Option.bind_eq_some_iff.mp H
    obtain ⟨t483, A660, H⟩ := H
    have A66 := Aside0.mk A660
    clear A660
    by_cases c67 : 1 < (x5_1.length : Int)
    rotate_left
    ·rw [if_neg c67] at H
     exact absurd H (by simp)
    rw [if_pos c67] at H
    have c67b0 := decide_eq_true c67
    have c67b1 : decide (1 < x5_1.length) = true := decide_eq_true (by omega)
    clear c67
    replace H := Option.bind_eq_some_iff.mp H
    obtain ⟨t485, A680, H⟩ := H
    have A68 := Aside0.mk A680
    clear A680
    replace H := Option.bind_eq_some_iff.mp H
    obtain ⟨t486, A690, H⟩ := H
    have A69 := Aside0.mk A690
    clear A690
    replace H := Option.bind_eq_some_iff.mp H
    obtain ⟨t488, A700, H⟩ := H
    have A70 := Aside0.mk A700
    clear A700
    by_cases c71 : 0 < (x5_1.length : Int)
    rotate_left
    ·rw [if_neg c71] at H
     exact absurd H (by simp)
    rw [if_pos c71] at H
    have c71b0 := decide_eq_true c71
    have c71b1 : decide (0 < x5_1.length) = true := decide_eq_true (by omega)
    clear c71
    replace H := Option.bind_eq_some_iff.mp H
    obtain ⟨t490, A720, H⟩ := H
    have A72 := Aside0.mk A720
    clear A720
    obtain rfl := Option.some.inj H
    obtain ⟨_, _, _, _, _, _, _, _⟩ := bx4 BK449.out
    try go_wp2
    replace HO_5 := Aside0.mk (Kd.R_drew HO_5.out)
    replace BK449 := Aside0.mk (blk_drew BK449.out)
    replace HB := Aside0.mk (below_drew1 HB.out)
    have p476 : 0 ≤ (0 : Int) := (by omega)
    have q476 : 0 < (l0_2.length : Int) := of_decide_eq_true as_
    obtain ⟨ad476, e476, hx476_0⟩ := Kd.at_int HR0_2.out 0 p476 q476
    have hw476_0 := hx476_0
    rw [show ((0 : Int)).toNat = 0 from rfl] at hw476_0
    rw [Addr.add_zero'] at hw476_0
    cases e476
    have qi476 : (0 < l0_2.length) = True := eq_true (by omega)
    rw [show ((0 : Int)).toNat = 0 from rfl] at hx476_0
    rw [Addr.add_zero'] at hx476_0
    replace hx476_0 := upc hx476_0
    replace p476 := eq_true p476
    replace q476 := eq_true q476
    have p478 : 0 ≤ (0 : Int) := (by omega)
    have q478 : 0 < (l0_2.length : Int) := of_decide_eq_true as_
    obtain ⟨ad478, e478, hx478_0⟩ := Kd.at_int HR0_2.out 0 p478 q478
    have hw478_0 := hx478_0
    rw [show ((0 : Int)).toNat = 0 from rfl] at hw478_0
    rw [Addr.add_zero'] at hw478_0
    obtain rfl : ad476 = ad478 := (by injection e478)
    have qi478 : (0 < l0_2.length) = True := eq_true (by omega)
    rw [show ((0 : Int)).toNat = 0 from rfl] at hx478_0
    rw [Addr.add_zero'] at hx478_0
    replace hx478_0 := upc hx478_0
    replace p478 := eq_true p478
    replace q478 := eq_true q478
    refine st (S := fun w' => w'.cell? ⟨gb449, 0, none⟩ = some (.int .i64 a0_0) ∧ w'.cell? ⟨gb449, 1, none⟩ = some (.slice A0_1 l0_1.length c0_1) ∧ w'.cell? ⟨gb449, 2, none⟩ = some (.slice (some ad476) l0_2.length c0_2) ∧ w'.cell? ⟨gb449, 3, none⟩ = some (.slice A0_3 l0_3.length c0_3) ∧ w'.cell? ad476 = some (.int .i64 (rd l0_2 0)) ∧ w'.cell? ad476 = some (.int .i64 (rd l0_2 0))) (ds := []) (fun hHeld => ?_); refine with_tabW latheref14_at.tab18 latheref14_at.bits18 (fun HT_ HW_ => ?_)
    generalize wr.drew = w74 at HO_5 BK449 HB hx476_0 hx478_0 hHeld ⊢
    refine pu (i := 0) (N := some 110) ?_
    refine pu (i := 1) (N := some 111) ?_
    refine pu (i := 7) (N := some 117) ?_
    refine tk (i := 2) (N := some 112) ?_
    refine pu (i := 3) (N := some 113) ?_
    refine tk (i := 4) (N := some 114) ?_
    refine pu (i := 5) (N := some 115) ?_
    refine tk (i := 8) (N := some 118) ?_
    refine pu (i := 9) (N := some 119) ?_
    refine tk (i := 10) (N := some 120) ?_
    refine on (i := 6) (N := some 116) (fun K hK => ?_)
    refine goes_ Tryd.func59 (by kernel_rfl) rfl #[.int .i64 ji60] (by rfl) rfl rfl (by (try simp only [List.map_toArray, List.map_cons, List.map_nil]); first | done | (simp only [hji60]; rfl) | rfl | (simp only [List.length_drop, List.length_take]; rfl)) ?_
    with_reducible refine (latheref02_FromInt.calls k1 ji60 t477 _ A61.out).mono ?_
    rintro e w75 ⟨rfl, hb⟩
    refine ⟨_, rfl, ?_⟩
    replace HO_5 := ros HO_5 hb
    replace BK449 := bks BK449 hb
    replace HB := bst hb
    clear hb
    refine nx hK.out (fun hHeld => ?_)
    refine on (i := 11) (N := some 121) (fun K hK => ?_)
    refine gB Tryd.func59 (latheref02_FromInt.calls k1 (rd l0_2 0) t479 _ A62.out) (fun w76 hb => ?_)
    replace HO_5 := ros HO_5 hb
    replace BK449 := bks BK449 hb
    replace HB := bst hb
    clear hb
    refine nx hK.out (fun hHeld => ?_)
    refine on (i := 12) (N := some 122) (fun K hK => ?_)
    refine gB Tryd.func58 (latheref02_Div.calls k1 t477 t479 t480 _ A63.out) (fun w77 hb => ?_)
    replace HO_5 := ros HO_5 hb
    replace BK449 := bks BK449 hb
    replace HB := bst hb
    clear hb
    refine nx hK.out (fun hHeld => ?_)
    refine pu (i := 13) (N := some 11) ?_
    refine done_ (done_of HT_.out (by kernel_rfl)) ?_
    try go_wp2_with (first | ((with_reducible refine gate_callee (f := 19) rfl ?_); refine gC (some 124) Tryd.func19 (latheref14_Wave.calls k1 t480 t481 _ A64.out) (fun w78 hb => ?_); clear A64; replace HO_5 := ros HO_5 hb; replace BK449 := bks BK449 hb; replace HB := bst hb; (try clear hb)) | ((with_reducible refine gate_callee (f := 26) rfl ?_); refine gC (some 125) Tryd.func26 (latheref02_Add.calls k1 1065353216 t481 t482 _ A65.out) (fun w79 hb => ?_); clear A65; replace HO_5 := ros HO_5 hb; replace BK449 := bks BK449 hb; replace HB := bst hb; (try clear hb)) | ((with_reducible refine gate_callee (f := 27) rfl ?_); refine gC (some 126) Tryd.func27 (latheref02_Mul.calls k1 1056964608 t482 t483 _ A66.out) (fun w80 hb => ?_); clear A66; replace HO_5 := ros HO_5 hb; replace BK449 := bks BK449 hb; replace HB := bst hb; (try clear hb); obtain ⟨Ao81, co81, eo81⟩ := Kd.R_slice HO_5.out; subst eo81; have p484 : 0 ≤ (1 : Int) := (by omega); have q484 : 1 < (x5_1.length : Int) := of_decide_eq_true as_; obtain ⟨ad484, e484, hx484_0⟩ := Kd.at_int (Kd.R_reads' HO_5.out).2.2 1 p484 q484; cases e484; (try simp only [show (1 : Int).toNat = 1 from rfl, Nat.reduceMul, Nat.reduceEqDiff, Go.Addr.add, ↓reduceIte] at hx484_0); have qi484 : (1 < x5_1.length) = True := eq_true (by omega); (try rw [show ((1 : Int)).toNat = 1 from rfl] at hx484_0); replace p484 := eq_true p484; replace q484 := eq_true q484) | ((with_reducible refine gate_callee (f := 22) rfl ?_); refine gC (some 130) Tryd.func22 (latheref02_Sub.calls k1 1065353216 (rd x5_1 1) t485 _ A68.out) (fun w82 hb => ?_); clear A68; replace HO_5 := ros HO_5 hb; replace BK449 := bks BK449 hb; replace HB := bst hb; (try clear hb)) | ((with_reducible refine gate_callee (f := 27) rfl ?_); refine gC (some 132) Tryd.func27 (latheref02_Mul.calls k1 t485 t483 t486 _ A69.out) (fun w83 hb => ?_); clear A69; replace HO_5 := ros HO_5 hb; replace BK449 := bks BK449 hb; replace HB := bst hb; (try clear hb)))
    replace HO_5 := Aside0.mk (Kd.R_drew HO_5.out)
    replace BK449 := Aside0.mk (blk_drew BK449.out)
    replace HB := Aside0.mk (below_drew1 HB.out)
    have p487 : 0 ≤ (1 : Int) := (by omega)
    have q487 : 1 < (x5_1.length : Int) := of_decide_eq_true as_
    obtain ⟨ad487, e487, hx487_0⟩ := Kd.at_int (Kd.R_reads' HO_5.out).2.2 1 p487 q487
    obtain rfl : ad484 = ad487 := (by injection e487)
    simp only [show (1 : Int).toNat = 1 from rfl, Nat.reduceMul, Nat.reduceEqDiff, Go.Addr.add, ↓reduceIte] at hx487_0
    have qi487 : (1 < x5_1.length) = True := eq_true (by omega)
    replace p487 := eq_true p487
    replace q487 := eq_true q487
    have p489 : 0 ≤ (0 : Int) := (by omega)
    have q489 : 0 < (x5_1.length : Int) := of_decide_eq_true as_
    obtain ⟨ad489, e489, hx489_0⟩ := Kd.at_int (Kd.R_reads' HO_5.out).2.2 0 p489 q489
    obtain rfl : ad484 = ad489 := (by injection e489)
    have qi489 : (0 < x5_1.length) = True := eq_true (by omega)
    rw [show ((0 : Int)).toNat = 0 from rfl] at hx489_0
    rw [Addr.add_zero'] at hx489_0
    replace p489 := eq_true p489
    replace q489 := eq_true q489
    refine start_ (n := 10) (S := fun w' => w'.cell? ⟨ad484.block, ad484.off + 1, none⟩ = some (.int .i64 (rd x5_1 1)) ∧ w'.cell? ad484 = some (.int .i64 (rd x5_1 0))) (ds := []) #[false, false, false, false, false, false, false, false, false, false] (by kernel_rfl) rfl rfl ⟨hx487_0, hx489_0⟩ (fun hHeld => ?_); refine with_tabW latheref14_at.tab21 latheref14_at.bits21 (fun HT_ HW_ => ?_)
    generalize w83.drew = w84 at HO_5 BK449 HB hx487_0 hx489_0 hHeld ⊢
    refine pu (i := 0) (N := some 133) ?_
    refine pu (i := 1) (N := some 134) ?_
    refine pu (i := 2) (N := some 135) ?_
    refine pu (i := 5) (N := some 138) ?_
    refine pu (i := 6) (N := some 139) ?_
    refine tk (i := 3) (N := some 136) ?_
    refine tk (i := 7) (N := some 140) ?_
    refine on (i := 4) (N := some 137) (fun K hK => ?_)
    refine gA Tryd.func26 #[.int .i64 t486, .int .i64 (rd x5_1 1)] ?_
    with_reducible refine (latheref02_Add.calls k1 t486 (rd x5_1 1) t488 _ A70.out).mono ?_
    rintro e w85 ⟨rfl, hb⟩
    have HS0_ := (hb.cell (World.block_lt_of_cell? _ _ (hHeld.1))).trans (hHeld.1)
    have HS1_ := (hb.cell (World.block_lt_of_cell? _ _ (hHeld.2))).trans (hHeld.2)
    refine ⟨_, rfl, ?_⟩
    replace HO_5 := ros HO_5 hb
    replace BK449 := bks BK449 hb
    replace HB := bst hb
    clear hb
    refine nxt hK.out ⟨HS0_, HS1_⟩ (fun hHeld => ?_)
    refine on (i := 8) (N := some 141) (fun K hK => ?_)
    refine gA Tryd.func27 #[.int .i64 t488, .int .i64 (rd x5_1 0)] ?_
    with_reducible refine (latheref02_Mul.calls k1 t488 (rd x5_1 0) t490 _ A72.out).mono ?_
    rintro e w86 ⟨rfl, hb⟩
    have HS0_ := (hb.cell (World.block_lt_of_cell? _ _ (hHeld.1))).trans (hHeld.1)
    have HS1_ := (hb.cell (World.block_lt_of_cell? _ _ (hHeld.2))).trans (hHeld.2)
    refine ⟨_, rfl, ?_⟩
    replace HO_5 := ros HO_5 hb
    replace BK449 := bks BK449 hb
    replace HB := bst hb
    clear hb
    refine nxt hK.out ⟨HS0_, HS1_⟩ (fun hHeld => ?_)
    refine pu (i := 9) (N := some 4) ?_
    refine done_ (done_of HT_.out (by kernel_rfl)) ?_
    try go_wp2
    go_ret
    exact ⟨by first | rfl | (simp [errW_none, errW_some] <;> rfl) | (simp only [← hji60]; first | rfl | (simp [errW_none, errW_some] <;> rfl)) | (simp [*, errW_none, errW_some] <;> rfl), by repeat (first | (with_reducible first | exact HB.out | apply below_alloc | apply pw_below_drewN | apply below_drew1 | refine below_set ?_ GE449.out) | exact HB.out)⟩
   rw [if_neg c58] at H
   have c58b0 : (a0_0 == 4) = false := beq_eq_false_iff_ne.mpr c58
   have c58b1 : (a0_0 != 4) = true := bne_iff_ne.mpr c58
   by_cases c87 : a0_0 = 5
   ·rw [if_pos c87] at H
    have c87b0 : (a0_0 == 5) = true := beq_iff_eq.mpr c87
    have c87b1 : (a0_0 != 5) = false := bne_eq_false_iff_eq.mpr c87
    clear c87
    by_cases c88 : 0 < (x5_1.length : Int)
    rotate_left
    ·rw [if_neg c88] at H
     exact absurd H (by simp)
    rw [if_pos c88] at H
    have c88b0 := decide_eq_true c88
    have c88b1 : decide (0 < x5_1.length) = true := decide_eq_true (by omega)
    clear c88
    have H' := Aside0.mk H
    clear H
    obtain ⟨_, _, _, _, _, _, _, _⟩ := bx4 BK449.out
    obtain ⟨Ao90, co90, eo90⟩ := Kd.R_slice HO_5.out
    subst eo90
    have p491 : 0 ≤ (0 : Int) := (by omega)
    have q491 : 0 < (x5_1.length : Int) := of_decide_eq_true as_
    obtain ⟨ad491, e491, hx491_0⟩ := Kd.at_int (Kd.R_reads' HO_5.out).2.2 0 p491 q491
    cases e491
    have qi491 : (0 < x5_1.length) = True := eq_true (by omega)
    rw [show ((0 : Int)).toNat = 0 from rfl] at hx491_0
    rw [Addr.add_zero'] at hx491_0
    replace p491 := eq_true p491
    replace q491 := eq_true q491
    go_wp2
    go_loopg [14, 15] k1 (fun kq v14 v15 w' => ∃ (x14_2 : Int) (x15_2 : Int), v14 = .int .i64 x14_2 ∧ v15 = .int .i64 x15_2 ∧ Aside0 (latheref14_at.l1 kq a1 x5_1 x14_2 x15_2 a0_0 l0_1 l0_2 l0_3 = some r) ∧ Aside0 (kq ≤ k1) ∧ Aside0 (Kd.R (Kd.int .i64) 3 w' w.heap.size (fun _ => True) (.slice (some ad491) x5_1.length co90) x5_1) ∧ Aside0 (w'.heap[gb449]? = some (.cells #[.int .i64 a0_0, (.slice A0_1 l0_1.length c0_1), (.slice A0_2 l0_2.length c0_2), (.slice A0_3 l0_3.length c0_3)] 26 (0, 0))) ∧ Aside0 (Below w.heap.size w w'))
    case atStart => exact ⟨(rd x5_1 0), (0), id_, id_, H', ⟨Nat.le_refl _⟩, ⟨by (with_reducible repeat (first | apply Kd.R_alloc | apply Kd.R_drewN | apply Kd.R_drew)); exact HO_5.out⟩, ⟨bkk⟩, ⟨hbb⟩⟩
    case round =>
     clear H'
     clear c43 c43b0 c43b1 c58 c58b0 c58b1 c87b0 c87b1 c88b0 c88b1 hx491_0 p491 q491
     obtain ⟨x14_2, x15_2, rfl, rfl, HA, HK2, HO_5, BK449, HB⟩ := hrel
     cases gk with
     | zero => exact absurd HA.out (by simp [latheref14_at.l1])
     | succ k2 =>
      have H := HA.out
      clear HA
      simp only [latheref14_at.l1] at H
      by_cases c91 : x15_2 < (l0_2.length : Int)
      rotate_left
      ·rw [if_neg c91] at H
       have c91b0 := decide_eq_false c91
       clear c91
       obtain rfl := Option.some.inj H
       obtain ⟨_, _, _, _, _, _, _, _⟩ := bx4 BK449.out
       go_wp2
       go_ret
       exact fin_
      rw [if_pos c91] at H
      have c91b0 := decide_eq_true c91
      clear c91
      by_cases c92 : 0 ≤ x15_2
      rotate_left
      ·rw [if_neg c92] at H
       exact absurd H (by simp)
      rw [if_pos c92] at H
      have c92b0 := decide_eq_true c92
      clear c92
      by_cases c93 : (rd l0_2 x15_2) ≤ a1
      rotate_left
      ·rw [if_neg c93] at H
       have c93b0 := decide_eq_false c93
       clear c93
       have H' := Aside0.mk H
       clear H
       obtain ⟨_, _, _, _, _, _, _, _⟩ := bx4 BK449.out
       have p492 : 0 ≤ (x15_2 : Int) := of_decide_eq_true as_
       have q492 : x15_2 < (l0_2.length : Int) := of_decide_eq_true as_
       obtain ⟨ad492, e492, hx492_0⟩ := Kd.at_int HR0_2.out x15_2 p492 q492
       cases e492
       replace hx492_0 := upc hx492_0
       replace p492 := eq_true p492
       replace q492 := eq_true q492
       go_wp2
       go_roundg k2
       case measure => have := HK1.out; have := HK2.out; omega
       case rel => exact ⟨(x14_2), (wrap64 (x15_2 + 1)), id_, id_, H', ⟨by have := HK1.out; have := HK2.out; omega⟩, ⟨by (with_reducible repeat (first | apply Kd.R_alloc | apply Kd.R_drewN | apply Kd.R_drew)); exact HO_5.out⟩, ⟨bkk⟩, ⟨hbb⟩⟩
      rw [if_pos c93] at H
      have c93b0 := decide_eq_true c93
      clear c93
      obtain ⟨ji94, hji94⟩ : ∃ j_ : Int, (wrap64 (x15_2 + 1)) = j_ := ⟨_, rfl⟩
      first | rw [hji94] at H | simp only [hji94] at H
      have hji94w : (IntKind.i64.wrap (x15_2 + 1)) = ji94 := (i64_w _).trans hji94
      by_cases c95 : 0 ≤ (ji94)
      rotate_left
      ·rw [if_neg c95] at H
       exact absurd H (by simp)
      rw [if_pos c95] at H
      have c95b0 := decide_eq_true c95
      clear c95
      by_cases c96 : (ji94) < (x5_1.length : Int)
      rotate_left
      ·rw [if_neg c96] at H
       exact absurd H (by simp)
      rw [if_pos c96] at H
      have c96b0 := decide_eq_true c96
      clear c96
      replace H := Option.bind_eq_some_iff.mp H
      obtain ⟨t494, A970, H⟩ := H
      have A97 := Aside0.mk A970
      clear A970
      have H' := Aside0.mk H
      clear H
      obtain ⟨_, _, _, _, _, _, _, _⟩ := bx4 BK449.out
      have p492 : 0 ≤ (x15_2 : Int) := of_decide_eq_true as_
      have q492 : x15_2 < (l0_2.length : Int) := of_decide_eq_true as_
      obtain ⟨ad492, e492, hx492_0⟩ := Kd.at_int HR0_2.out x15_2 p492 q492
      cases e492
      replace hx492_0 := upc hx492_0
      replace p492 := eq_true p492
      replace q492 := eq_true q492
      have p493 : 0 ≤ ((ji94) : Int) := of_decide_eq_true as_
      have q493 : (ji94) < (x5_1.length : Int) := of_decide_eq_true as_
      obtain ⟨ad493, e493, hx493_0⟩ := Kd.at_int (Kd.R_reads' HO_5.out).2.2 (ji94) p493 q493
      obtain rfl : ad491 = ad493 := (by injection e493)
      replace p493 := eq_true p493
      replace q493 := eq_true q493
      go_wp2_with (first | ((with_reducible refine gate_callee (f := 27) rfl ?_); refine goesL_ (some 167) rfl rfl Tryd.func27 (by kernel_rfl) rfl #[.int .i64 x14_2, .int .i64 (rd x5_1 (ji94))] rfl (by (try simp only [List.map_toArray, List.map_cons, List.map_nil]); first | done | (simp only [hji94]; rfl) | rfl | (simp only [List.length_drop, List.length_take]; rfl)) ?_; (with_reducible refine (latheref02_Mul.calls k2 x14_2 (rd x5_1 (ji94)) t494 _ A97.out).mono ?_); clear A97; rintro e w99 ⟨rfl, hb⟩; refine ⟨_, rfl, ?_⟩; replace HO_5 := ros HO_5 hb; replace BK449 := bks BK449 hb; replace HB := bst hb; (try clear hb)))
      go_roundg k2
      case measure => have := HK1.out; have := HK2.out; omega
      case rel => exact ⟨(t494), (ji94), id_, (by first | rfl | (simp; done) | (simp only [← hji94] <;> (first | rfl | simp)) | (simp [*]; done)), (by first | exact H' | (rw [hji94]; exact H')), ⟨by have := HK1.out; have := HK2.out; omega⟩, ⟨by (with_reducible repeat (first | apply Kd.R_alloc | apply Kd.R_drewN | apply Kd.R_drew)); exact HO_5.out⟩, ⟨bkk⟩, ⟨hbb⟩⟩
   rw [if_neg c87] at H
   have c87b0 : (a0_0 == 5) = false := beq_eq_false_iff_ne.mpr c87
   have c87b1 : (a0_0 != 5) = true := bne_iff_ne.mpr c87
   by_cases c102 : a0_0 = 6
   ·rw [if_pos c102] at H
    have c102b0 : (a0_0 == 6) = true := beq_iff_eq.mpr c102
    have c102b1 : (a0_0 != 6) = false := bne_eq_false_iff_eq.mpr c102
    clear c102
    have H' := Aside0.mk H
    clear H
    obtain ⟨_, _, _, _, _, _, _, _⟩ := bx4 BK449.out
    go_wp2
    go_loopg [16, 17, 18] k1 (fun kq v16 v17 v18 w' => ∃ (x16_2 : Int) (x17_2 : Int) (x18_2 : Int), v16 = .int .i64 x16_2 ∧ v17 = .int .i64 x17_2 ∧ v18 = .int .i64 x18_2 ∧ Aside0 (latheref14_at.l2 kq a1 x16_2 x17_2 x18_2 a0_0 l0_1 l0_2 l0_3 = some r) ∧ Aside0 (kq ≤ k1) ∧ Aside0 (w'.heap[gb449]? = some (.cells #[.int .i64 a0_0, (.slice A0_1 l0_1.length c0_1), (.slice A0_2 l0_2.length c0_2), (.slice A0_3 l0_3.length c0_3)] 26 (0, 0))) ∧ Aside0 (Below w.heap.size w w'))
    case atStart => exact ⟨(0), (0), (0), id_, id_, id_, H', ⟨Nat.le_refl _⟩, ⟨bkk⟩, ⟨hbb⟩⟩
    case round =>
     clear H'
     clear c9 c43 c43b0 c43b1 c58 c58b0 c58b1 c87 c87b0 c87b1 c102b0 c102b1
     obtain ⟨x16_2, x17_2, x18_2, rfl, rfl, rfl, HA, HK2, BK449, HB⟩ := hrel
     cases gk with
     | zero => exact absurd HA.out (by simp [latheref14_at.l2])
     | succ k2 =>
      have H := HA.out
      clear HA
      simp only [latheref14_at.l2] at H
      by_cases c104 : x18_2 < (l0_2.length : Int)
      rotate_left
      ·rw [if_neg c104] at H
       have c104b0 := decide_eq_false c104
       clear c104
       by_cases c109 : 0 ≤ x16_2
       rotate_left
       ·rw [if_neg c109] at H
        exact absurd H (by simp)
       rw [if_pos c109] at H
       have c109b0 := decide_eq_true c109
       clear c109
       by_cases c110 : x16_2 < (l0_3.length : Int)
       rotate_left
       ·rw [if_neg c110] at H
        exact absurd H (by simp)
       rw [if_pos c110] at H
       have c110b0 := decide_eq_true c110
       clear c110
       replace H := Option.bind_eq_some_iff.mp H
       obtain ⟨t498, A1110, H⟩ := H
       have A111 := Aside0.mk A1110
       clear A1110
       obtain rfl := Option.some.inj H
       obtain ⟨_, _, _, _, _, _, _, _⟩ := bx4 BK449.out
       have p497 : 0 ≤ (x16_2 : Int) := of_decide_eq_true as_
       have q497 : x16_2 < (l0_3.length : Int) := of_decide_eq_true as_
       obtain ⟨ad497, A497_1, c497_1, A497_2, c497_2, A497_3, c497_3, e497, hx497_0, hx497_1, hx497_2, hx497_3, hl497_1, hi497_1, hl497_2, hi497_2, hl497_3, hi497_3⟩ := at_T26 HR0_3.out x16_2 p497 q497
       cases e497
       replace hx497_0 := upc hx497_0
       replace hx497_1 := upc hx497_1
       replace hx497_2 := upc hx497_2
       replace hx497_3 := upc hx497_3
       have HR497_1 := Aside0.mk hi497_1
       have HC497_1 := Aside0.mk hl497_1
       clear hi497_1 hl497_1
       have HR497_2 := Aside0.mk hi497_2
       have HC497_2 := Aside0.mk hl497_2
       clear hi497_2 hl497_2
       have HR497_3 := Aside0.mk hi497_3
       have HC497_3 := Aside0.mk hl497_3
       clear hi497_3 hl497_3
       replace p497 := eq_true p497
       replace q497 := eq_true q497
       go_wp2_with (first | ((with_reducible refine gate_callee (f := 32) rfl ?_); refine gL (some 200) Tryd.func32 #[.agg #[.int .i64 ((rd_T26 l0_3 x16_2).f0), .slice A497_1 ((rd_T26 l0_3 x16_2).f1).length c497_1, .slice A497_2 ((rd_T26 l0_3 x16_2).f2).length c497_2, .slice A497_3 ((rd_T26 l0_3 x16_2).f3).length c497_3], .int .i64 (wrap64 (a1 - x17_2))] ?_; (with_reducible refine (ih k2 (by have := HK1.out; have := HK2.out; omega) ((rd_T26 l0_3 x16_2).f0) _ _ ((rd_T26 l0_3 x16_2).f1) _ _ ((rd_T26 l0_3 x16_2).f2) _ _ ((rd_T26 l0_3 x16_2).f3) (wrap64 (a1 - x17_2)) t498 _ ?side1 ?side2 ?side3 ?side4 ?side5 ?side6 A111.out).mono ?_); (case side1 => exact cb HR497_1); (case side2 => exact HC497_1.out); (case side3 => exact cb HR497_2); (case side4 => exact HC497_2.out); (case side5 => exact cb HR497_3); (case side6 => exact HC497_3.out); rintro e w113 ⟨rfl, hb⟩; refine ⟨_, rfl, ?_⟩; replace BK449 := bks BK449 hb; replace HB := bst hb; (try clear hb)))
       go_ret
       exact fin_
      rw [if_pos c104] at H
      have c104b0 := decide_eq_true c104
      clear c104
      by_cases c105 : 0 ≤ x18_2
      rotate_left
      ·rw [if_neg c105] at H
       exact absurd H (by simp)
      rw [if_pos c105] at H
      have c105b0 := decide_eq_true c105
      clear c105
      by_cases c106 : (rd l0_2 x18_2) ≤ a1
      rotate_left
      ·rw [if_neg c106] at H
       have c106b0 := decide_eq_false c106
       clear c106
       have H' := Aside0.mk H
       clear H
       obtain ⟨_, _, _, _, _, _, _, _⟩ := bx4 BK449.out
       have p495 : 0 ≤ (x18_2 : Int) := of_decide_eq_true as_
       have q495 : x18_2 < (l0_2.length : Int) := of_decide_eq_true as_
       obtain ⟨ad495, e495, hx495_0⟩ := Kd.at_int HR0_2.out x18_2 p495 q495
       cases e495
       replace hx495_0 := upc hx495_0
       replace p495 := eq_true p495
       replace q495 := eq_true q495
       go_wp2
       go_roundg k2
       case measure => have := HK1.out; have := HK2.out; omega
       case rel => exact ⟨(x16_2), (x17_2), (wrap64 (x18_2 + 1)), id_, id_, id_, H', ⟨by have := HK1.out; have := HK2.out; omega⟩, ⟨bkk⟩, ⟨hbb⟩⟩
      rw [if_pos c106] at H
      have c106b0 := decide_eq_true c106
      clear c106
      have H' := Aside0.mk H
      clear H
      obtain ⟨_, _, _, _, _, _, _, _⟩ := bx4 BK449.out
      have p495 : 0 ≤ (x18_2 : Int) := of_decide_eq_true as_
      have q495 : x18_2 < (l0_2.length : Int) := of_decide_eq_true as_
      obtain ⟨ad495, e495, hx495_0⟩ := Kd.at_int HR0_2.out x18_2 p495 q495
      cases e495
      replace hx495_0 := upc hx495_0
      replace p495 := eq_true p495
      replace q495 := eq_true q495
      have p496 : 0 ≤ (x18_2 : Int) := of_decide_eq_true as_
      have q496 : x18_2 < (l0_2.length : Int) := of_decide_eq_true as_
      obtain ⟨ad496, e496, hx496_0⟩ := Kd.at_int HR0_2.out x18_2 p496 q496
      obtain rfl : ad495 = ad496 := (by injection e496)
      replace hx496_0 := upc hx496_0
      replace p496 := eq_true p496
      replace q496 := eq_true q496
      go_wp2
      go_roundg k2
      case measure => have := HK1.out; have := HK2.out; omega
      case rel => exact ⟨(wrap64 (x18_2 + 1)), (rd l0_2 x18_2), (wrap64 (x18_2 + 1)), id_, id_, id_, H', ⟨by have := HK1.out; have := HK2.out; omega⟩, ⟨bkk⟩, ⟨hbb⟩⟩
   rw [if_neg c102] at H
   have c102b0 : (a0_0 == 6) = false := beq_eq_false_iff_ne.mpr c102
   have c102b1 : (a0_0 != 6) = true := bne_iff_ne.mpr c102
   by_cases c114 : a0_0 = 8
   ·rw [if_pos c114] at H
    have c114b0 : (a0_0 == 8) = true := beq_iff_eq.mpr c114
    have c114b1 : (a0_0 != 8) = false := bne_eq_false_iff_eq.mpr c114
    clear c114
    by_cases c115 : 0 < (l0_3.length : Int)
    rotate_left
    ·rw [if_neg c115] at H
     exact absurd H (by simp)
    rw [if_pos c115] at H
    have c115b0 := decide_eq_true c115
    have c115b1 : decide (0 < l0_3.length) = true := decide_eq_true (by omega)
    clear c115
    replace H := Option.bind_eq_some_iff.mp H
    obtain ⟨t500, A1160, H⟩ := H
    have A116 := Aside0.mk A1160
    clear A1160
    by_cases c117 : 1 < (l0_3.length : Int)
    rotate_left
    ·rw [if_neg c117] at H
     exact absurd H (by simp)
    rw [if_pos c117] at H
    have c117b0 := decide_eq_true c117
    have c117b1 : decide (1 < l0_3.length) = true := decide_eq_true (by omega)
    clear c117
    replace H := Option.bind_eq_some_iff.mp H
    obtain ⟨t502, A1180, H⟩ := H
    have A118 := Aside0.mk A1180
    clear A1180
    replace H := Option.bind_eq_some_iff.mp H
    obtain ⟨t503, A1190, H⟩ := H
    have A119 := Aside0.mk A1190
    clear A1190
    obtain rfl := Option.some.inj H
    obtain ⟨_, _, _, _, _, _, _, _⟩ := bx4 BK449.out
    try go_wp2
    replace HO_5 := Aside0.mk (Kd.R_drew HO_5.out)
    replace BK449 := Aside0.mk (blk_drew BK449.out)
    replace HB := Aside0.mk (below_drew1 HB.out)
    have p499 : 0 ≤ (0 : Int) := (by omega)
    have q499 : 0 < (l0_3.length : Int) := of_decide_eq_true as_
    obtain ⟨ad499, A499_1, c499_1, A499_2, c499_2, A499_3, c499_3, e499, hx499_0, hx499_1, hx499_2, hx499_3, hl499_1, hi499_1, hl499_2, hi499_2, hl499_3, hi499_3⟩ := at_T26 HR0_3.out 0 p499 q499
    have hw499_3 := hx499_3
    rw [show ((0 : Int)).toNat = 0 from rfl] at hw499_3
    rw [show 0 * 4 = 0 from rfl] at hw499_3
    rw [Addr.add_zero'] at hw499_3
    have hw499_2 := hx499_2
    rw [show ((0 : Int)).toNat = 0 from rfl] at hw499_2
    rw [show 0 * 4 = 0 from rfl] at hw499_2
    rw [Addr.add_zero'] at hw499_2
    have hw499_1 := hx499_1
    rw [show ((0 : Int)).toNat = 0 from rfl] at hw499_1
    rw [show 0 * 4 = 0 from rfl] at hw499_1
    rw [Addr.add_zero'] at hw499_1
    have hw499_0 := hx499_0
    rw [show ((0 : Int)).toNat = 0 from rfl] at hw499_0
    rw [show 0 * 4 = 0 from rfl] at hw499_0
    rw [Addr.add_zero'] at hw499_0
    cases e499
    have qi499 : (0 < l0_3.length) = True := eq_true (by omega)
    rw [show ((0 : Int)).toNat = 0 from rfl] at hx499_0
    rw [show 0 * 4 = 0 from rfl] at hx499_0
    rw [Addr.add_zero'] at hx499_0
    rw [show ((0 : Int)).toNat = 0 from rfl] at hx499_1
    rw [show 0 * 4 = 0 from rfl] at hx499_1
    rw [Addr.add_zero'] at hx499_1
    rw [show ((0 : Int)).toNat = 0 from rfl] at hx499_2
    rw [show 0 * 4 = 0 from rfl] at hx499_2
    rw [Addr.add_zero'] at hx499_2
    rw [show ((0 : Int)).toNat = 0 from rfl] at hx499_3
    rw [show 0 * 4 = 0 from rfl] at hx499_3
    rw [Addr.add_zero'] at hx499_3
    replace hx499_0 := upc hx499_0
    replace hx499_1 := upc hx499_1
    replace hx499_2 := upc hx499_2
    replace hx499_3 := upc hx499_3
    have HR499_1 := Aside0.mk hi499_1
    have HC499_1 := Aside0.mk hl499_1
    clear hi499_1 hl499_1
    have HR499_2 := Aside0.mk hi499_2
    have HC499_2 := Aside0.mk hl499_2
    clear hi499_2 hl499_2
    have HR499_3 := Aside0.mk hi499_3
    have HC499_3 := Aside0.mk hl499_3
    clear hi499_3 hl499_3
    replace p499 := eq_true p499
    replace q499 := eq_true q499
    have p501 : 0 ≤ (1 : Int) := (by omega)
    have q501 : 1 < (l0_3.length : Int) := of_decide_eq_true as_
    obtain ⟨ad501, A501_1, c501_1, A501_2, c501_2, A501_3, c501_3, e501, hx501_0, hx501_1, hx501_2, hx501_3, hl501_1, hi501_1, hl501_2, hi501_2, hl501_3, hi501_3⟩ := at_T26 HR0_3.out 1 p501 q501
    have hw501_3 := hx501_3
    rw [show ((1 : Int)).toNat = 1 from rfl] at hw501_3
    rw [show 1 * 4 = 4 from rfl] at hw501_3
    simp only [Nat.reduceMul, Nat.reduceEqDiff, Go.Addr.add, ↓reduceIte] at hw501_3
    have hw501_2 := hx501_2
    rw [show ((1 : Int)).toNat = 1 from rfl] at hw501_2
    rw [show 1 * 4 = 4 from rfl] at hw501_2
    simp only [Nat.reduceMul, Nat.reduceEqDiff, Go.Addr.add, ↓reduceIte] at hw501_2
    have hw501_1 := hx501_1
    rw [show ((1 : Int)).toNat = 1 from rfl] at hw501_1
    rw [show 1 * 4 = 4 from rfl] at hw501_1
    simp only [Nat.reduceMul, Nat.reduceEqDiff, Go.Addr.add, ↓reduceIte] at hw501_1
    have hw501_0 := hx501_0
    rw [show ((1 : Int)).toNat = 1 from rfl] at hw501_0
    rw [show 1 * 4 = 4 from rfl] at hw501_0
    simp only [Nat.reduceMul, Nat.reduceEqDiff, Go.Addr.add, ↓reduceIte] at hw501_0
    obtain rfl : ad499 = ad501 := (by injection e501)
    simp only [show (1 : Int).toNat = 1 from rfl, Nat.reduceMul, Nat.reduceEqDiff, Go.Addr.add, ↓reduceIte] at hx501_0
    simp only [show (1 : Int).toNat = 1 from rfl, Nat.reduceMul, Nat.reduceEqDiff, Go.Addr.add, ↓reduceIte] at hx501_1
    simp only [show (1 : Int).toNat = 1 from rfl, Nat.reduceMul, Nat.reduceEqDiff, Go.Addr.add, ↓reduceIte] at hx501_2
    simp only [show (1 : Int).toNat = 1 from rfl, Nat.reduceMul, Nat.reduceEqDiff, Go.Addr.add, ↓reduceIte] at hx501_3
    have qi501 : (1 < l0_3.length) = True := eq_true (by omega)
    replace hx501_0 := upc hx501_0
    replace hx501_1 := upc hx501_1
    replace hx501_2 := upc hx501_2
    replace hx501_3 := upc hx501_3
    have HR501_1 := Aside0.mk hi501_1
    have HC501_1 := Aside0.mk hl501_1
    clear hi501_1 hl501_1
    have HR501_2 := Aside0.mk hi501_2
    have HC501_2 := Aside0.mk hl501_2
    clear hi501_2 hl501_2
    have HR501_3 := Aside0.mk hi501_3
    have HC501_3 := Aside0.mk hl501_3
    clear hi501_3 hl501_3
    replace p501 := eq_true p501
    replace q501 := eq_true q501
    refine st (S := fun w' => w'.cell? ⟨gb449, 0, none⟩ = some (.int .i64 a0_0) ∧ w'.cell? ⟨gb449, 1, none⟩ = some (.slice A0_1 l0_1.length c0_1) ∧ w'.cell? ⟨gb449, 2, none⟩ = some (.slice A0_2 l0_2.length c0_2) ∧ w'.cell? ⟨gb449, 3, none⟩ = some (.slice (some ad499) l0_3.length c0_3) ∧ w'.cell? ad499 = some (.int .i64 ((rd_T26 l0_3 0).f0)) ∧ w'.cell? ⟨ad499.block, ad499.off + 1, none⟩ = some (.slice A499_1 ((rd_T26 l0_3 0).f1).length c499_1) ∧ w'.cell? ⟨ad499.block, ad499.off + 2, none⟩ = some (.slice A499_2 ((rd_T26 l0_3 0).f2).length c499_2) ∧ w'.cell? ⟨ad499.block, ad499.off + 3, none⟩ = some (.slice A499_3 ((rd_T26 l0_3 0).f3).length c499_3) ∧ w'.cell? ⟨ad499.block, ad499.off + 4, none⟩ = some (.int .i64 ((rd_T26 l0_3 1).f0)) ∧ w'.cell? ⟨ad499.block, ad499.off + 4 + 1, none⟩ = some (.slice A501_1 ((rd_T26 l0_3 1).f1).length c501_1) ∧ w'.cell? ⟨ad499.block, ad499.off + 4 + 2, none⟩ = some (.slice A501_2 ((rd_T26 l0_3 1).f2).length c501_2) ∧ w'.cell? ⟨ad499.block, ad499.off + 4 + 3, none⟩ = some (.slice A501_3 ((rd_T26 l0_3 1).f3).length c501_3)) (ds := []) (fun hHeld => ?_); refine with_tabW latheref14_at.tab40 latheref14_at.bits40 (fun HT_ HW_ => ?_)
    generalize wr.drew = w121 at HO_5 BK449 HB HR499_1 HR499_2 HR499_3 HR501_1 HR501_2 HR501_3 hx499_0 hx499_1 hx499_2 hx499_3 hx501_0 hx501_1 hx501_2 hx501_3 hHeld ⊢
    refine pu (i := 0) (N := some 203) ?_
    refine pu (i := 4) (N := some 207) ?_
    refine pu (i := 6) (N := some 209) ?_
    refine pu (i := 10) (N := some 213) ?_
    refine tk (i := 1) (N := some 204) ?_
    refine pu (i := 2) (N := some 205) ?_
    refine tk (i := 3) (N := some 206) ?_
    refine tk (i := 7) (N := some 210) ?_
    refine pu (i := 8) (N := some 211) ?_
    refine tk (i := 9) (N := some 212) ?_
    refine on (i := 5) (N := some 208) (fun K hK => ?_)
    refine gB Tryd.func32 (ih k1 (by have := HK1.out; omega) ((rd_T26 l0_3 0).f0) _ _ ((rd_T26 l0_3 0).f1) _ _ ((rd_T26 l0_3 0).f2) _ _ ((rd_T26 l0_3 0).f3) a1 t500 _ (cb HR499_1) HC499_1.out (cb HR499_2) HC499_2.out (cb HR499_3) HC499_3.out A116.out) (fun w122 hb => ?_)
    replace HO_5 := ros HO_5 hb
    replace BK449 := bks BK449 hb
    replace HB := bst hb
    clear hb
    refine nx hK.out (fun hHeld => ?_)
    refine on (i := 11) (N := some 214) (fun K hK => ?_)
    refine gB Tryd.func32 (ih k1 (by have := HK1.out; omega) ((rd_T26 l0_3 1).f0) _ _ ((rd_T26 l0_3 1).f1) _ _ ((rd_T26 l0_3 1).f2) _ _ ((rd_T26 l0_3 1).f3) a1 t502 _ (cb HR501_1) HC501_1.out (cb HR501_2) HC501_2.out (cb HR501_3) HC501_3.out A118.out) (fun w123 hb => ?_)
    replace HO_5 := ros HO_5 hb
    replace BK449 := bks BK449 hb
    replace HB := bst hb
    clear hb
    refine nx hK.out (fun hHeld => ?_)
    refine on (i := 12) (N := some 215) (fun K hK => ?_)
    refine gB Tryd.func26 (latheref02_Add.calls k1 t500 t502 t503 _ A119.out) (fun w124 hb => ?_)
    replace HO_5 := ros HO_5 hb
    replace BK449 := bks BK449 hb
    replace HB := bst hb
    clear hb
    refine nx hK.out (fun hHeld => ?_)
    refine pu (i := 13) (N := some 4) ?_
    refine done_ (done_of HT_.out (by kernel_rfl)) ?_
    try go_wp2
    go_ret
    exact fin_
   rw [if_neg c114] at H
   have c114b0 : (a0_0 == 8) = false := beq_eq_false_iff_ne.mpr c114
   have c114b1 : (a0_0 != 8) = true := bne_iff_ne.mpr c114
   by_cases c125 : a0_0 = 9
   ·rw [if_pos c125] at H
    have c125b0 : (a0_0 == 9) = true := beq_iff_eq.mpr c125
    have c125b1 : (a0_0 != 9) = false := bne_eq_false_iff_eq.mpr c125
    clear c125
    by_cases c126 : 0 < (l0_3.length : Int)
    rotate_left
    ·rw [if_neg c126] at H
     exact absurd H (by simp)
    rw [if_pos c126] at H
    have c126b0 := decide_eq_true c126
    have c126b1 : decide (0 < l0_3.length) = true := decide_eq_true (by omega)
    clear c126
    replace H := Option.bind_eq_some_iff.mp H
    obtain ⟨t505, A1270, H⟩ := H
    have A127 := Aside0.mk A1270
    clear A1270
    by_cases c128 : 1 < (l0_3.length : Int)
    rotate_left
    ·rw [if_neg c128] at H
     exact absurd H (by simp)
    rw [if_pos c128] at H
    have c128b0 := decide_eq_true c128
    have c128b1 : decide (1 < l0_3.length) = true := decide_eq_true (by omega)
    clear c128
    replace H := Option.bind_eq_some_iff.mp H
    obtain ⟨t507, A1290, H⟩ := H
    have A129 := Aside0.mk A1290
    clear A1290
    replace H := Option.bind_eq_some_iff.mp H
    obtain ⟨t508, A1300, H⟩ := H
    have A130 := Aside0.mk A1300
    clear A1300
    obtain rfl := Option.some.inj H
    obtain ⟨_, _, _, _, _, _, _, _⟩ := bx4 BK449.out
    try go_wp2
    replace HO_5 := Aside0.mk (Kd.R_drew HO_5.out)
    replace BK449 := Aside0.mk (blk_drew BK449.out)
    replace HB := Aside0.mk (below_drew1 HB.out)
    have p504 : 0 ≤ (0 : Int) := (by omega)
    have q504 : 0 < (l0_3.length : Int) := of_decide_eq_true as_
    obtain ⟨ad504, A504_1, c504_1, A504_2, c504_2, A504_3, c504_3, e504, hx504_0, hx504_1, hx504_2, hx504_3, hl504_1, hi504_1, hl504_2, hi504_2, hl504_3, hi504_3⟩ := at_T26 HR0_3.out 0 p504 q504
    have hw504_3 := hx504_3
    rw [show ((0 : Int)).toNat = 0 from rfl] at hw504_3
    rw [show 0 * 4 = 0 from rfl] at hw504_3
    rw [Addr.add_zero'] at hw504_3
    have hw504_2 := hx504_2
    rw [show ((0 : Int)).toNat = 0 from rfl] at hw504_2
    rw [show 0 * 4 = 0 from rfl] at hw504_2
    rw [Addr.add_zero'] at hw504_2
    have hw504_1 := hx504_1
    rw [show ((0 : Int)).toNat = 0 from rfl] at hw504_1
    rw [show 0 * 4 = 0 from rfl] at hw504_1
    rw [Addr.add_zero'] at hw504_1
    have hw504_0 := hx504_0
    rw [show ((0 : Int)).toNat = 0 from rfl] at hw504_0
    rw [show 0 * 4 = 0 from rfl] at hw504_0
    rw [Addr.add_zero'] at hw504_0
    cases e504
    have qi504 : (0 < l0_3.length) = True := eq_true (by omega)
    rw [show ((0 : Int)).toNat = 0 from rfl] at hx504_0
    rw [show 0 * 4 = 0 from rfl] at hx504_0
    rw [Addr.add_zero'] at hx504_0
    rw [show ((0 : Int)).toNat = 0 from rfl] at hx504_1
    rw [show 0 * 4 = 0 from rfl] at hx504_1
    rw [Addr.add_zero'] at hx504_1
    rw [show ((0 : Int)).toNat = 0 from rfl] at hx504_2
    rw [show 0 * 4 = 0 from rfl] at hx504_2
    rw [Addr.add_zero'] at hx504_2
    rw [show ((0 : Int)).toNat = 0 from rfl] at hx504_3
    rw [show 0 * 4 = 0 from rfl] at hx504_3
    rw [Addr.add_zero'] at hx504_3
    replace hx504_0 := upc hx504_0
    replace hx504_1 := upc hx504_1
    replace hx504_2 := upc hx504_2
    replace hx504_3 := upc hx504_3
    have HR504_1 := Aside0.mk hi504_1
    have HC504_1 := Aside0.mk hl504_1
    clear hi504_1 hl504_1
    have HR504_2 := Aside0.mk hi504_2
    have HC504_2 := Aside0.mk hl504_2
    clear hi504_2 hl504_2
    have HR504_3 := Aside0.mk hi504_3
    have HC504_3 := Aside0.mk hl504_3
    clear hi504_3 hl504_3
    replace p504 := eq_true p504
    replace q504 := eq_true q504
    have p506 : 0 ≤ (1 : Int) := (by omega)
    have q506 : 1 < (l0_3.length : Int) := of_decide_eq_true as_
    obtain ⟨ad506, A506_1, c506_1, A506_2, c506_2, A506_3, c506_3, e506, hx506_0, hx506_1, hx506_2, hx506_3, hl506_1, hi506_1, hl506_2, hi506_2, hl506_3, hi506_3⟩ := at_T26 HR0_3.out 1 p506 q506
    have hw506_3 := hx506_3
    rw [show ((1 : Int)).toNat = 1 from rfl] at hw506_3
    rw [show 1 * 4 = 4 from rfl] at hw506_3
    simp only [Nat.reduceMul, Nat.reduceEqDiff, Go.Addr.add, ↓reduceIte] at hw506_3
    have hw506_2 := hx506_2
    rw [show ((1 : Int)).toNat = 1 from rfl] at hw506_2
    rw [show 1 * 4 = 4 from rfl] at hw506_2
    simp only [Nat.reduceMul, Nat.reduceEqDiff, Go.Addr.add, ↓reduceIte] at hw506_2
    have hw506_1 := hx506_1
    rw [show ((1 : Int)).toNat = 1 from rfl] at hw506_1
    rw [show 1 * 4 = 4 from rfl] at hw506_1
    simp only [Nat.reduceMul, Nat.reduceEqDiff, Go.Addr.add, ↓reduceIte] at hw506_1
    have hw506_0 := hx506_0
    rw [show ((1 : Int)).toNat = 1 from rfl] at hw506_0
    rw [show 1 * 4 = 4 from rfl] at hw506_0
    simp only [Nat.reduceMul, Nat.reduceEqDiff, Go.Addr.add, ↓reduceIte] at hw506_0
    obtain rfl : ad504 = ad506 := (by injection e506)
    simp only [show (1 : Int).toNat = 1 from rfl, Nat.reduceMul, Nat.reduceEqDiff, Go.Addr.add, ↓reduceIte] at hx506_0
    simp only [show (1 : Int).toNat = 1 from rfl, Nat.reduceMul, Nat.reduceEqDiff, Go.Addr.add, ↓reduceIte] at hx506_1
    simp only [show (1 : Int).toNat = 1 from rfl, Nat.reduceMul, Nat.reduceEqDiff, Go.Addr.add, ↓reduceIte] at hx506_2
    simp only [show (1 : Int).toNat = 1 from rfl, Nat.reduceMul, Nat.reduceEqDiff, Go.Addr.add, ↓reduceIte] at hx506_3
    have qi506 : (1 < l0_3.length) = True := eq_true (by omega)
    replace hx506_0 := upc hx506_0
    replace hx506_1 := upc hx506_1
    replace hx506_2 := upc hx506_2
    replace hx506_3 := upc hx506_3
    have HR506_1 := Aside0.mk hi506_1
    have HC506_1 := Aside0.mk hl506_1
    clear hi506_1 hl506_1
    have HR506_2 := Aside0.mk hi506_2
    have HC506_2 := Aside0.mk hl506_2
    clear hi506_2 hl506_2
    have HR506_3 := Aside0.mk hi506_3
    have HC506_3 := Aside0.mk hl506_3
    clear hi506_3 hl506_3
    replace p506 := eq_true p506
    replace q506 := eq_true q506
    refine st (S := fun w' => w'.cell? ⟨gb449, 0, none⟩ = some (.int .i64 a0_0) ∧ w'.cell? ⟨gb449, 1, none⟩ = some (.slice A0_1 l0_1.length c0_1) ∧ w'.cell? ⟨gb449, 2, none⟩ = some (.slice A0_2 l0_2.length c0_2) ∧ w'.cell? ⟨gb449, 3, none⟩ = some (.slice (some ad504) l0_3.length c0_3) ∧ w'.cell? ad504 = some (.int .i64 ((rd_T26 l0_3 0).f0)) ∧ w'.cell? ⟨ad504.block, ad504.off + 1, none⟩ = some (.slice A504_1 ((rd_T26 l0_3 0).f1).length c504_1) ∧ w'.cell? ⟨ad504.block, ad504.off + 2, none⟩ = some (.slice A504_2 ((rd_T26 l0_3 0).f2).length c504_2) ∧ w'.cell? ⟨ad504.block, ad504.off + 3, none⟩ = some (.slice A504_3 ((rd_T26 l0_3 0).f3).length c504_3) ∧ w'.cell? ⟨ad504.block, ad504.off + 4, none⟩ = some (.int .i64 ((rd_T26 l0_3 1).f0)) ∧ w'.cell? ⟨ad504.block, ad504.off + 4 + 1, none⟩ = some (.slice A506_1 ((rd_T26 l0_3 1).f1).length c506_1) ∧ w'.cell? ⟨ad504.block, ad504.off + 4 + 2, none⟩ = some (.slice A506_2 ((rd_T26 l0_3 1).f2).length c506_2) ∧ w'.cell? ⟨ad504.block, ad504.off + 4 + 3, none⟩ = some (.slice A506_3 ((rd_T26 l0_3 1).f3).length c506_3)) (ds := []) (fun hHeld => ?_); refine with_tabW latheref14_at.tab42 latheref14_at.bits42 (fun HT_ HW_ => ?_)
    generalize wr.drew = w132 at HO_5 BK449 HB HR504_1 HR504_2 HR504_3 HR506_1 HR506_2 HR506_3 hx504_0 hx504_1 hx504_2 hx504_3 hx506_0 hx506_1 hx506_2 hx506_3 hHeld ⊢
    refine pu (i := 0) (N := some 218) ?_
    refine pu (i := 4) (N := some 222) ?_
    refine pu (i := 6) (N := some 224) ?_
    refine pu (i := 10) (N := some 228) ?_
    refine tk (i := 1) (N := some 219) ?_
    refine pu (i := 2) (N := some 220) ?_
    refine tk (i := 3) (N := some 221) ?_
    refine tk (i := 7) (N := some 225) ?_
    refine pu (i := 8) (N := some 226) ?_
    refine tk (i := 9) (N := some 227) ?_
    refine on (i := 5) (N := some 223) (fun K hK => ?_)
    refine gB Tryd.func32 (ih k1 (by have := HK1.out; omega) ((rd_T26 l0_3 0).f0) _ _ ((rd_T26 l0_3 0).f1) _ _ ((rd_T26 l0_3 0).f2) _ _ ((rd_T26 l0_3 0).f3) a1 t505 _ (cb HR504_1) HC504_1.out (cb HR504_2) HC504_2.out (cb HR504_3) HC504_3.out A127.out) (fun w133 hb => ?_)
    replace HO_5 := ros HO_5 hb
    replace BK449 := bks BK449 hb
    replace HB := bst hb
    clear hb
    refine nx hK.out (fun hHeld => ?_)
    refine on (i := 11) (N := some 229) (fun K hK => ?_)
    refine gB Tryd.func32 (ih k1 (by have := HK1.out; omega) ((rd_T26 l0_3 1).f0) _ _ ((rd_T26 l0_3 1).f1) _ _ ((rd_T26 l0_3 1).f2) _ _ ((rd_T26 l0_3 1).f3) a1 t507 _ (cb HR506_1) HC506_1.out (cb HR506_2) HC506_2.out (cb HR506_3) HC506_3.out A129.out) (fun w134 hb => ?_)
    replace HO_5 := ros HO_5 hb
    replace BK449 := bks BK449 hb
    replace HB := bst hb
    clear hb
    refine nx hK.out (fun hHeld => ?_)
    refine on (i := 12) (N := some 230) (fun K hK => ?_)
    refine gB Tryd.func27 (latheref02_Mul.calls k1 t505 t507 t508 _ A130.out) (fun w135 hb => ?_)
    replace HO_5 := ros HO_5 hb
    replace BK449 := bks BK449 hb
    replace HB := bst hb
    clear hb
    refine nx hK.out (fun hHeld => ?_)
    refine pu (i := 13) (N := some 4) ?_
    refine done_ (done_of HT_.out (by kernel_rfl)) ?_
    try go_wp2
    go_ret
    exact fin_
   rw [if_neg c125] at H
   have c125b0 : (a0_0 == 9) = false := beq_eq_false_iff_ne.mpr c125
   have c125b1 : (a0_0 != 9) = true := bne_iff_ne.mpr c125
   by_cases c136 : a0_0 = 10
   ·rw [if_pos c136] at H
    have c136b0 : (a0_0 == 10) = true := beq_iff_eq.mpr c136
    have c136b1 : (a0_0 != 10) = false := bne_eq_false_iff_eq.mpr c136
    clear c136
    by_cases c137 : 0 < (l0_3.length : Int)
    rotate_left
    ·rw [if_neg c137] at H
     exact absurd H (by simp)
    rw [if_pos c137] at H
    have c137b0 := decide_eq_true c137
    have c137b1 : decide (0 < l0_3.length) = true := decide_eq_true (by omega)
    clear c137
    replace H := Option.bind_eq_some_iff.mp H
    obtain ⟨t510, A1380, H⟩ := H
    have A138 := Aside0.mk A1380
    clear A1380
    by_cases c139 : 1 < (l0_3.length : Int)
    rotate_left
    ·rw [if_neg c139] at H
     exact absurd H (by simp)
    rw [if_pos c139] at H
    have c139b0 := decide_eq_true c139
    have c139b1 : decide (1 < l0_3.length) = true := decide_eq_true (by omega)
    clear c139
    replace H := Option.bind_eq_some_iff.mp H
    obtain ⟨t512, A1400, H⟩ := H
    have A140 := Aside0.mk A1400
    clear A1400
    replace H := Option.bind_eq_some_iff.mp H
    obtain ⟨t513, A1410, H⟩ := H
    have A141 := Aside0.mk A1410
    clear A1410
    obtain rfl := Option.some.inj H
    obtain ⟨_, _, _, _, _, _, _, _⟩ := bx4 BK449.out
    try go_wp2
    replace HO_5 := Aside0.mk (Kd.R_drew HO_5.out)
    replace BK449 := Aside0.mk (blk_drew BK449.out)
    replace HB := Aside0.mk (below_drew1 HB.out)
    have p509 : 0 ≤ (0 : Int) := (by omega)
    have q509 : 0 < (l0_3.length : Int) := of_decide_eq_true as_
    obtain ⟨ad509, A509_1, c509_1, A509_2, c509_2, A509_3, c509_3, e509, hx509_0, hx509_1, hx509_2, hx509_3, hl509_1, hi509_1, hl509_2, hi509_2, hl509_3, hi509_3⟩ := at_T26 HR0_3.out 0 p509 q509
    have hw509_3 := hx509_3
    rw [show ((0 : Int)).toNat = 0 from rfl] at hw509_3
    rw [show 0 * 4 = 0 from rfl] at hw509_3
    rw [Addr.add_zero'] at hw509_3
    have hw509_2 := hx509_2
    rw [show ((0 : Int)).toNat = 0 from rfl] at hw509_2
    rw [show 0 * 4 = 0 from rfl] at hw509_2
    rw [Addr.add_zero'] at hw509_2
    have hw509_1 := hx509_1
    rw [show ((0 : Int)).toNat = 0 from rfl] at hw509_1
    rw [show 0 * 4 = 0 from rfl] at hw509_1
    rw [Addr.add_zero'] at hw509_1
    have hw509_0 := hx509_0
    rw [show ((0 : Int)).toNat = 0 from rfl] at hw509_0
    rw [show 0 * 4 = 0 from rfl] at hw509_0
    rw [Addr.add_zero'] at hw509_0
    cases e509
    have qi509 : (0 < l0_3.length) = True := eq_true (by omega)
    rw [show ((0 : Int)).toNat = 0 from rfl] at hx509_0
    rw [show 0 * 4 = 0 from rfl] at hx509_0
    rw [Addr.add_zero'] at hx509_0
    rw [show ((0 : Int)).toNat = 0 from rfl] at hx509_1
    rw [show 0 * 4 = 0 from rfl] at hx509_1
    rw [Addr.add_zero'] at hx509_1
    rw [show ((0 : Int)).toNat = 0 from rfl] at hx509_2
    rw [show 0 * 4 = 0 from rfl] at hx509_2
    rw [Addr.add_zero'] at hx509_2
    rw [show ((0 : Int)).toNat = 0 from rfl] at hx509_3
    rw [show 0 * 4 = 0 from rfl] at hx509_3
    rw [Addr.add_zero'] at hx509_3
    replace hx509_0 := upc hx509_0
    replace hx509_1 := upc hx509_1
    replace hx509_2 := upc hx509_2
    replace hx509_3 := upc hx509_3
    have HR509_1 := Aside0.mk hi509_1
    have HC509_1 := Aside0.mk hl509_1
    clear hi509_1 hl509_1
    have HR509_2 := Aside0.mk hi509_2
    have HC509_2 := Aside0.mk hl509_2
    clear hi509_2 hl509_2
    have HR509_3 := Aside0.mk hi509_3
    have HC509_3 := Aside0.mk hl509_3
    clear hi509_3 hl509_3
    replace p509 := eq_true p509
    replace q509 := eq_true q509
    have p511 : 0 ≤ (1 : Int) := (by omega)
    have q511 : 1 < (l0_3.length : Int) := of_decide_eq_true as_
    obtain ⟨ad511, A511_1, c511_1, A511_2, c511_2, A511_3, c511_3, e511, hx511_0, hx511_1, hx511_2, hx511_3, hl511_1, hi511_1, hl511_2, hi511_2, hl511_3, hi511_3⟩ := at_T26 HR0_3.out 1 p511 q511
    have hw511_3 := hx511_3
    rw [show ((1 : Int)).toNat = 1 from rfl] at hw511_3
    rw [show 1 * 4 = 4 from rfl] at hw511_3
    simp only [Nat.reduceMul, Nat.reduceEqDiff, Go.Addr.add, ↓reduceIte] at hw511_3
    have hw511_2 := hx511_2
    rw [show ((1 : Int)).toNat = 1 from rfl] at hw511_2
    rw [show 1 * 4 = 4 from rfl] at hw511_2
    simp only [Nat.reduceMul, Nat.reduceEqDiff, Go.Addr.add, ↓reduceIte] at hw511_2
    have hw511_1 := hx511_1
    rw [show ((1 : Int)).toNat = 1 from rfl] at hw511_1
    rw [show 1 * 4 = 4 from rfl] at hw511_1
    simp only [Nat.reduceMul, Nat.reduceEqDiff, Go.Addr.add, ↓reduceIte] at hw511_1
    have hw511_0 := hx511_0
    rw [show ((1 : Int)).toNat = 1 from rfl] at hw511_0
    rw [show 1 * 4 = 4 from rfl] at hw511_0
    simp only [Nat.reduceMul, Nat.reduceEqDiff, Go.Addr.add, ↓reduceIte] at hw511_0
    obtain rfl : ad509 = ad511 := (by injection e511)
    simp only [show (1 : Int).toNat = 1 from rfl, Nat.reduceMul, Nat.reduceEqDiff, Go.Addr.add, ↓reduceIte] at hx511_0
    simp only [show (1 : Int).toNat = 1 from rfl, Nat.reduceMul, Nat.reduceEqDiff, Go.Addr.add, ↓reduceIte] at hx511_1
    simp only [show (1 : Int).toNat = 1 from rfl, Nat.reduceMul, Nat.reduceEqDiff, Go.Addr.add, ↓reduceIte] at hx511_2
    simp only [show (1 : Int).toNat = 1 from rfl, Nat.reduceMul, Nat.reduceEqDiff, Go.Addr.add, ↓reduceIte] at hx511_3
    have qi511 : (1 < l0_3.length) = True := eq_true (by omega)
    replace hx511_0 := upc hx511_0
    replace hx511_1 := upc hx511_1
    replace hx511_2 := upc hx511_2
    replace hx511_3 := upc hx511_3
    have HR511_1 := Aside0.mk hi511_1
    have HC511_1 := Aside0.mk hl511_1
    clear hi511_1 hl511_1
    have HR511_2 := Aside0.mk hi511_2
    have HC511_2 := Aside0.mk hl511_2
    clear hi511_2 hl511_2
    have HR511_3 := Aside0.mk hi511_3
    have HC511_3 := Aside0.mk hl511_3
    clear hi511_3 hl511_3
    replace p511 := eq_true p511
    replace q511 := eq_true q511
    refine st (S := fun w' => w'.cell? ⟨gb449, 0, none⟩ = some (.int .i64 a0_0) ∧ w'.cell? ⟨gb449, 1, none⟩ = some (.slice A0_1 l0_1.length c0_1) ∧ w'.cell? ⟨gb449, 2, none⟩ = some (.slice A0_2 l0_2.length c0_2) ∧ w'.cell? ⟨gb449, 3, none⟩ = some (.slice (some ad509) l0_3.length c0_3) ∧ w'.cell? ad509 = some (.int .i64 ((rd_T26 l0_3 0).f0)) ∧ w'.cell? ⟨ad509.block, ad509.off + 1, none⟩ = some (.slice A509_1 ((rd_T26 l0_3 0).f1).length c509_1) ∧ w'.cell? ⟨ad509.block, ad509.off + 2, none⟩ = some (.slice A509_2 ((rd_T26 l0_3 0).f2).length c509_2) ∧ w'.cell? ⟨ad509.block, ad509.off + 3, none⟩ = some (.slice A509_3 ((rd_T26 l0_3 0).f3).length c509_3) ∧ w'.cell? ⟨ad509.block, ad509.off + 4, none⟩ = some (.int .i64 ((rd_T26 l0_3 1).f0)) ∧ w'.cell? ⟨ad509.block, ad509.off + 4 + 1, none⟩ = some (.slice A511_1 ((rd_T26 l0_3 1).f1).length c511_1) ∧ w'.cell? ⟨ad509.block, ad509.off + 4 + 2, none⟩ = some (.slice A511_2 ((rd_T26 l0_3 1).f2).length c511_2) ∧ w'.cell? ⟨ad509.block, ad509.off + 4 + 3, none⟩ = some (.slice A511_3 ((rd_T26 l0_3 1).f3).length c511_3)) (ds := []) (fun hHeld => ?_); refine with_tabW latheref14_at.tab44 latheref14_at.bits44 (fun HT_ HW_ => ?_)
    generalize wr.drew = w143 at HO_5 BK449 HB HR509_1 HR509_2 HR509_3 HR511_1 HR511_2 HR511_3 hx509_0 hx509_1 hx509_2 hx509_3 hx511_0 hx511_1 hx511_2 hx511_3 hHeld ⊢
    refine pu (i := 0) (N := some 233) ?_
    refine pu (i := 4) (N := some 237) ?_
    refine pu (i := 6) (N := some 239) ?_
    refine pu (i := 10) (N := some 243) ?_
    refine tk (i := 1) (N := some 234) ?_
    refine pu (i := 2) (N := some 235) ?_
    refine tk (i := 3) (N := some 236) ?_
    refine tk (i := 7) (N := some 240) ?_
    refine pu (i := 8) (N := some 241) ?_
    refine tk (i := 9) (N := some 242) ?_
    refine on (i := 5) (N := some 238) (fun K hK => ?_)
    refine gB Tryd.func32 (ih k1 (by have := HK1.out; omega) ((rd_T26 l0_3 0).f0) _ _ ((rd_T26 l0_3 0).f1) _ _ ((rd_T26 l0_3 0).f2) _ _ ((rd_T26 l0_3 0).f3) a1 t510 _ (cb HR509_1) HC509_1.out (cb HR509_2) HC509_2.out (cb HR509_3) HC509_3.out A138.out) (fun w144 hb => ?_)
    replace HO_5 := ros HO_5 hb
    replace BK449 := bks BK449 hb
    replace HB := bst hb
    clear hb
    refine nx hK.out (fun hHeld => ?_)
    refine on (i := 11) (N := some 244) (fun K hK => ?_)
    refine gB Tryd.func32 (ih k1 (by have := HK1.out; omega) ((rd_T26 l0_3 1).f0) _ _ ((rd_T26 l0_3 1).f1) _ _ ((rd_T26 l0_3 1).f2) _ _ ((rd_T26 l0_3 1).f3) a1 t512 _ (cb HR511_1) HC511_1.out (cb HR511_2) HC511_2.out (cb HR511_3) HC511_3.out A140.out) (fun w145 hb => ?_)
    replace HO_5 := ros HO_5 hb
    replace BK449 := bks BK449 hb
    replace HB := bst hb
    clear hb
    refine nx hK.out (fun hHeld => ?_)
    refine on (i := 12) (N := some 245) (fun K hK => ?_)
    refine gB Tryd.func43 (latheref02_Min.calls t510 t512 t513 _ A141.out) (fun w146 hb => ?_)
    replace HO_5 := ros HO_5 hb
    replace BK449 := bks BK449 hb
    replace HB := bst hb
    clear hb
    refine nx hK.out (fun hHeld => ?_)
    refine pu (i := 13) (N := some 4) ?_
    refine done_ (done_of HT_.out (by kernel_rfl)) ?_
    try go_wp2
    go_ret
    exact fin_
   rw [if_neg c136] at H
   have c136b0 : (a0_0 == 10) = false := beq_eq_false_iff_ne.mpr c136
   have c136b1 : (a0_0 != 10) = true := bne_iff_ne.mpr c136
   by_cases c147 : a0_0 = 11
   ·rw [if_pos c147] at H
    have c147b0 : (a0_0 == 11) = true := beq_iff_eq.mpr c147
    have c147b1 : (a0_0 != 11) = false := bne_eq_false_iff_eq.mpr c147
    clear c147
    by_cases c148 : 0 < (l0_3.length : Int)
    rotate_left
    ·rw [if_neg c148] at H
     exact absurd H (by simp)
    rw [if_pos c148] at H
    have c148b0 := decide_eq_true c148
    have c148b1 : decide (0 < l0_3.length) = true := decide_eq_true (by omega)
    clear c148
    replace H := Option.bind_eq_some_iff.mp H
    obtain ⟨t515, A1490, H⟩ := H
    have A149 := Aside0.mk A1490
    clear A1490
    by_cases c150 : 1 < (l0_3.length : Int)
    rotate_left
    ·rw [if_neg c150] at H
     exact absurd H (by simp)
    rw [if_pos c150] at H
    have c150b0 := decide_eq_true c150
    have c150b1 : decide (1 < l0_3.length) = true := decide_eq_true (by omega)
    clear c150
    replace H := Option.bind_eq_some_iff.mp H
    obtain ⟨t517, A1510, H⟩ := H
    have A151 := Aside0.mk A1510
    clear A1510
    replace H := Option.bind_eq_some_iff.mp H
    obtain ⟨t518, A1520, H⟩ := H
    have A152 := Aside0.mk A1520
    clear A1520
    obtain rfl := Option.some.inj H
    obtain ⟨_, _, _, _, _, _, _, _⟩ := bx4 BK449.out
    try go_wp2
    replace HO_5 := Aside0.mk (Kd.R_drew HO_5.out)
    replace BK449 := Aside0.mk (blk_drew BK449.out)
    replace HB := Aside0.mk (below_drew1 HB.out)
    have p514 : 0 ≤ (0 : Int) := (by omega)
    have q514 : 0 < (l0_3.length : Int) := of_decide_eq_true as_
    obtain ⟨ad514, A514_1, c514_1, A514_2, c514_2, A514_3, c514_3, e514, hx514_0, hx514_1, hx514_2, hx514_3, hl514_1, hi514_1, hl514_2, hi514_2, hl514_3, hi514_3⟩ := at_T26 HR0_3.out 0 p514 q514
    have hw514_3 := hx514_3
    rw [show ((0 : Int)).toNat = 0 from rfl] at hw514_3
    rw [show 0 * 4 = 0 from rfl] at hw514_3
    rw [Addr.add_zero'] at hw514_3
    have hw514_2 := hx514_2
    rw [show ((0 : Int)).toNat = 0 from rfl] at hw514_2
    rw [show 0 * 4 = 0 from rfl] at hw514_2
    rw [Addr.add_zero'] at hw514_2
    have hw514_1 := hx514_1
    rw [show ((0 : Int)).toNat = 0 from rfl] at hw514_1
    rw [show 0 * 4 = 0 from rfl] at hw514_1
    rw [Addr.add_zero'] at hw514_1
    have hw514_0 := hx514_0
    rw [show ((0 : Int)).toNat = 0 from rfl] at hw514_0
    rw [show 0 * 4 = 0 from rfl] at hw514_0
    rw [Addr.add_zero'] at hw514_0
    cases e514
    have qi514 : (0 < l0_3.length) = True := eq_true (by omega)
    rw [show ((0 : Int)).toNat = 0 from rfl] at hx514_0
    rw [show 0 * 4 = 0 from rfl] at hx514_0
    rw [Addr.add_zero'] at hx514_0
    rw [show ((0 : Int)).toNat = 0 from rfl] at hx514_1
    rw [show 0 * 4 = 0 from rfl] at hx514_1
    rw [Addr.add_zero'] at hx514_1
    rw [show ((0 : Int)).toNat = 0 from rfl] at hx514_2
    rw [show 0 * 4 = 0 from rfl] at hx514_2
    rw [Addr.add_zero'] at hx514_2
    rw [show ((0 : Int)).toNat = 0 from rfl] at hx514_3
    rw [show 0 * 4 = 0 from rfl] at hx514_3
    rw [Addr.add_zero'] at hx514_3
    replace hx514_0 := upc hx514_0
    replace hx514_1 := upc hx514_1
    replace hx514_2 := upc hx514_2
    replace hx514_3 := upc hx514_3
    have HR514_1 := Aside0.mk hi514_1
    have HC514_1 := Aside0.mk hl514_1
    clear hi514_1 hl514_1
    have HR514_2 := Aside0.mk hi514_2
    have HC514_2 := Aside0.mk hl514_2
    clear hi514_2 hl514_2
    have HR514_3 := Aside0.mk hi514_3
    have HC514_3 := Aside0.mk hl514_3
    clear hi514_3 hl514_3
    replace p514 := eq_true p514
    replace q514 := eq_true q514
    have p516 : 0 ≤ (1 : Int) := (by omega)
    have q516 : 1 < (l0_3.length : Int) := of_decide_eq_true as_
    obtain ⟨ad516, A516_1, c516_1, A516_2, c516_2, A516_3, c516_3, e516, hx516_0, hx516_1, hx516_2, hx516_3, hl516_1, hi516_1, hl516_2, hi516_2, hl516_3, hi516_3⟩ := at_T26 HR0_3.out 1 p516 q516
    have hw516_3 := hx516_3
    rw [show ((1 : Int)).toNat = 1 from rfl] at hw516_3
    rw [show 1 * 4 = 4 from rfl] at hw516_3
    simp only [Nat.reduceMul, Nat.reduceEqDiff, Go.Addr.add, ↓reduceIte] at hw516_3
    have hw516_2 := hx516_2
    rw [show ((1 : Int)).toNat = 1 from rfl] at hw516_2
    rw [show 1 * 4 = 4 from rfl] at hw516_2
    simp only [Nat.reduceMul, Nat.reduceEqDiff, Go.Addr.add, ↓reduceIte] at hw516_2
    have hw516_1 := hx516_1
    rw [show ((1 : Int)).toNat = 1 from rfl] at hw516_1
    rw [show 1 * 4 = 4 from rfl] at hw516_1
    simp only [Nat.reduceMul, Nat.reduceEqDiff, Go.Addr.add, ↓reduceIte] at hw516_1
    have hw516_0 := hx516_0
    rw [show ((1 : Int)).toNat = 1 from rfl] at hw516_0
    rw [show 1 * 4 = 4 from rfl] at hw516_0
    simp only [Nat.reduceMul, Nat.reduceEqDiff, Go.Addr.add, ↓reduceIte] at hw516_0
    obtain rfl : ad514 = ad516 := (by injection e516)
    simp only [show (1 : Int).toNat = 1 from rfl, Nat.reduceMul, Nat.reduceEqDiff, Go.Addr.add, ↓reduceIte] at hx516_0
    simp only [show (1 : Int).toNat = 1 from rfl, Nat.reduceMul, Nat.reduceEqDiff, Go.Addr.add, ↓reduceIte] at hx516_1
    simp only [show (1 : Int).toNat = 1 from rfl, Nat.reduceMul, Nat.reduceEqDiff, Go.Addr.add, ↓reduceIte] at hx516_2
    simp only [show (1 : Int).toNat = 1 from rfl, Nat.reduceMul, Nat.reduceEqDiff, Go.Addr.add, ↓reduceIte] at hx516_3
    have qi516 : (1 < l0_3.length) = True := eq_true (by omega)
    replace hx516_0 := upc hx516_0
    replace hx516_1 := upc hx516_1
    replace hx516_2 := upc hx516_2
    replace hx516_3 := upc hx516_3
    have HR516_1 := Aside0.mk hi516_1
    have HC516_1 := Aside0.mk hl516_1
    clear hi516_1 hl516_1
    have HR516_2 := Aside0.mk hi516_2
    have HC516_2 := Aside0.mk hl516_2
    clear hi516_2 hl516_2
    have HR516_3 := Aside0.mk hi516_3
    have HC516_3 := Aside0.mk hl516_3
    clear hi516_3 hl516_3
    replace p516 := eq_true p516
    replace q516 := eq_true q516
    refine st (S := fun w' => w'.cell? ⟨gb449, 0, none⟩ = some (.int .i64 a0_0) ∧ w'.cell? ⟨gb449, 1, none⟩ = some (.slice A0_1 l0_1.length c0_1) ∧ w'.cell? ⟨gb449, 2, none⟩ = some (.slice A0_2 l0_2.length c0_2) ∧ w'.cell? ⟨gb449, 3, none⟩ = some (.slice (some ad514) l0_3.length c0_3) ∧ w'.cell? ad514 = some (.int .i64 ((rd_T26 l0_3 0).f0)) ∧ w'.cell? ⟨ad514.block, ad514.off + 1, none⟩ = some (.slice A514_1 ((rd_T26 l0_3 0).f1).length c514_1) ∧ w'.cell? ⟨ad514.block, ad514.off + 2, none⟩ = some (.slice A514_2 ((rd_T26 l0_3 0).f2).length c514_2) ∧ w'.cell? ⟨ad514.block, ad514.off + 3, none⟩ = some (.slice A514_3 ((rd_T26 l0_3 0).f3).length c514_3) ∧ w'.cell? ⟨ad514.block, ad514.off + 4, none⟩ = some (.int .i64 ((rd_T26 l0_3 1).f0)) ∧ w'.cell? ⟨ad514.block, ad514.off + 4 + 1, none⟩ = some (.slice A516_1 ((rd_T26 l0_3 1).f1).length c516_1) ∧ w'.cell? ⟨ad514.block, ad514.off + 4 + 2, none⟩ = some (.slice A516_2 ((rd_T26 l0_3 1).f2).length c516_2) ∧ w'.cell? ⟨ad514.block, ad514.off + 4 + 3, none⟩ = some (.slice A516_3 ((rd_T26 l0_3 1).f3).length c516_3)) (ds := []) (fun hHeld => ?_); refine with_tabW latheref14_at.tab46 latheref14_at.bits46 (fun HT_ HW_ => ?_)
    generalize wr.drew = w154 at HO_5 BK449 HB HR514_1 HR514_2 HR514_3 HR516_1 HR516_2 HR516_3 hx514_0 hx514_1 hx514_2 hx514_3 hx516_0 hx516_1 hx516_2 hx516_3 hHeld ⊢
    refine pu (i := 0) (N := some 248) ?_
    refine pu (i := 4) (N := some 252) ?_
    refine pu (i := 6) (N := some 254) ?_
    refine pu (i := 10) (N := some 258) ?_
    refine tk (i := 1) (N := some 249) ?_
    refine pu (i := 2) (N := some 250) ?_
    refine tk (i := 3) (N := some 251) ?_
    refine tk (i := 7) (N := some 255) ?_
    refine pu (i := 8) (N := some 256) ?_
    refine tk (i := 9) (N := some 257) ?_
    refine on (i := 5) (N := some 253) (fun K hK => ?_)
    refine gB Tryd.func32 (ih k1 (by have := HK1.out; omega) ((rd_T26 l0_3 0).f0) _ _ ((rd_T26 l0_3 0).f1) _ _ ((rd_T26 l0_3 0).f2) _ _ ((rd_T26 l0_3 0).f3) a1 t515 _ (cb HR514_1) HC514_1.out (cb HR514_2) HC514_2.out (cb HR514_3) HC514_3.out A149.out) (fun w155 hb => ?_)
    replace HO_5 := ros HO_5 hb
    replace BK449 := bks BK449 hb
    replace HB := bst hb
    clear hb
    refine nx hK.out (fun hHeld => ?_)
    refine on (i := 11) (N := some 259) (fun K hK => ?_)
    refine gB Tryd.func32 (ih k1 (by have := HK1.out; omega) ((rd_T26 l0_3 1).f0) _ _ ((rd_T26 l0_3 1).f1) _ _ ((rd_T26 l0_3 1).f2) _ _ ((rd_T26 l0_3 1).f3) a1 t517 _ (cb HR516_1) HC516_1.out (cb HR516_2) HC516_2.out (cb HR516_3) HC516_3.out A151.out) (fun w156 hb => ?_)
    replace HO_5 := ros HO_5 hb
    replace BK449 := bks BK449 hb
    replace HB := bst hb
    clear hb
    refine nx hK.out (fun hHeld => ?_)
    refine on (i := 12) (N := some 260) (fun K hK => ?_)
    refine gB Tryd.func44 (latheref02_Max.calls t515 t517 t518 _ A152.out) (fun w157 hb => ?_)
    replace HO_5 := ros HO_5 hb
    replace BK449 := bks BK449 hb
    replace HB := bst hb
    clear hb
    refine nx hK.out (fun hHeld => ?_)
    refine pu (i := 13) (N := some 4) ?_
    refine done_ (done_of HT_.out (by kernel_rfl)) ?_
    try go_wp2
    go_ret
    exact fin_
   rw [if_neg c147] at H
   have c147b0 : (a0_0 == 11) = false := beq_eq_false_iff_ne.mpr c147
   have c147b1 : (a0_0 != 11) = true := bne_iff_ne.mpr c147
   by_cases c158 : a0_0 = 12
   ·rw [if_pos c158] at H
    have c158b0 : (a0_0 == 12) = true := beq_iff_eq.mpr c158
    have c158b1 : (a0_0 != 12) = false := bne_eq_false_iff_eq.mpr c158
    clear c158
    by_cases c159 : 0 < (l0_3.length : Int)
    rotate_left
    ·rw [if_neg c159] at H
     exact absurd H (by simp)
    rw [if_pos c159] at H
    have c159b0 := decide_eq_true c159
    have c159b1 : decide (0 < l0_3.length) = true := decide_eq_true (by omega)
    clear c159
    by_cases c160 : 0 < (l0_2.length : Int)
    rotate_left
    ·rw [if_neg c160] at H
     exact absurd H (by simp)
    rw [if_pos c160] at H
    have c160b0 := decide_eq_true c160
    have c160b1 : decide (0 < l0_2.length) = true := decide_eq_true (by omega)
    clear c160
    obtain ⟨ji161, hji161⟩ : ∃ j_ : Int, (mx (wrap64 (a1 - (rd l0_2 0))) 0) = j_ := ⟨_, rfl⟩
    first | rw [hji161] at H | simp only [hji161] at H
    (have hji161l : 0 ≤ ji161 := by (rw [← hji161]; unfold mx; (repeat' split) <;> omega))
    (have hji161m : 0 ≤ ji161 := by omega)
    have hji161_ : (if (wrap64 (a1 - (rd l0_2 0))) < 0 then 0 else (wrap64 (a1 - (rd l0_2 0)))) = ji161 := hji161
    replace H := Option.bind_eq_some_iff.mp H
    obtain ⟨t521, A1620, H⟩ := H
    have A162 := Aside0.mk A1620
    clear A1620
    obtain rfl := Option.some.inj H
    obtain ⟨_, _, _, _, _, _, _, _⟩ := bx4 BK449.out
    try go_wp2
    replace HO_5 := Aside0.mk (Kd.R_drew HO_5.out)
    replace BK449 := Aside0.mk (blk_drew BK449.out)
    replace HB := Aside0.mk (below_drew1 HB.out)
    have p519 : 0 ≤ (0 : Int) := (by omega)
    have q519 : 0 < (l0_3.length : Int) := of_decide_eq_true as_
    obtain ⟨ad519, A519_1, c519_1, A519_2, c519_2, A519_3, c519_3, e519, hx519_0, hx519_1, hx519_2, hx519_3, hl519_1, hi519_1, hl519_2, hi519_2, hl519_3, hi519_3⟩ := at_T26 HR0_3.out 0 p519 q519
    have hw519_3 := hx519_3
    rw [show ((0 : Int)).toNat = 0 from rfl] at hw519_3
    rw [show 0 * 4 = 0 from rfl] at hw519_3
    rw [Addr.add_zero'] at hw519_3
    have hw519_2 := hx519_2
    rw [show ((0 : Int)).toNat = 0 from rfl] at hw519_2
    rw [show 0 * 4 = 0 from rfl] at hw519_2
    rw [Addr.add_zero'] at hw519_2
    have hw519_1 := hx519_1
    rw [show ((0 : Int)).toNat = 0 from rfl] at hw519_1
    rw [show 0 * 4 = 0 from rfl] at hw519_1
    rw [Addr.add_zero'] at hw519_1
    have hw519_0 := hx519_0
    rw [show ((0 : Int)).toNat = 0 from rfl] at hw519_0
    rw [show 0 * 4 = 0 from rfl] at hw519_0
    rw [Addr.add_zero'] at hw519_0
    cases e519
    have qi519 : (0 < l0_3.length) = True := eq_true (by omega)
    rw [show ((0 : Int)).toNat = 0 from rfl] at hx519_0
    rw [show 0 * 4 = 0 from rfl] at hx519_0
    rw [Addr.add_zero'] at hx519_0
    rw [show ((0 : Int)).toNat = 0 from rfl] at hx519_1
    rw [show 0 * 4 = 0 from rfl] at hx519_1
    rw [Addr.add_zero'] at hx519_1
    rw [show ((0 : Int)).toNat = 0 from rfl] at hx519_2
    rw [show 0 * 4 = 0 from rfl] at hx519_2
    rw [Addr.add_zero'] at hx519_2
    rw [show ((0 : Int)).toNat = 0 from rfl] at hx519_3
    rw [show 0 * 4 = 0 from rfl] at hx519_3
    rw [Addr.add_zero'] at hx519_3
    replace hx519_0 := upc hx519_0
    replace hx519_1 := upc hx519_1
    replace hx519_2 := upc hx519_2
    replace hx519_3 := upc hx519_3
    have HR519_1 := Aside0.mk hi519_1
    have HC519_1 := Aside0.mk hl519_1
    clear hi519_1 hl519_1
    have HR519_2 := Aside0.mk hi519_2
    have HC519_2 := Aside0.mk hl519_2
    clear hi519_2 hl519_2
    have HR519_3 := Aside0.mk hi519_3
    have HC519_3 := Aside0.mk hl519_3
    clear hi519_3 hl519_3
    replace p519 := eq_true p519
    replace q519 := eq_true q519
    have p520 : 0 ≤ (0 : Int) := (by omega)
    have q520 : 0 < (l0_2.length : Int) := of_decide_eq_true as_
    obtain ⟨ad520, e520, hx520_0⟩ := Kd.at_int HR0_2.out 0 p520 q520
    have hw520_0 := hx520_0
    rw [show ((0 : Int)).toNat = 0 from rfl] at hw520_0
    rw [Addr.add_zero'] at hw520_0
    cases e520
    have qi520 : (0 < l0_2.length) = True := eq_true (by omega)
    rw [show ((0 : Int)).toNat = 0 from rfl] at hx520_0
    rw [Addr.add_zero'] at hx520_0
    replace hx520_0 := upc hx520_0
    replace p520 := eq_true p520
    replace q520 := eq_true q520
    refine st (S := fun w' => w'.cell? ⟨gb449, 0, none⟩ = some (.int .i64 a0_0) ∧ w'.cell? ⟨gb449, 1, none⟩ = some (.slice A0_1 l0_1.length c0_1) ∧ w'.cell? ⟨gb449, 2, none⟩ = some (.slice (some ad520) l0_2.length c0_2) ∧ w'.cell? ⟨gb449, 3, none⟩ = some (.slice (some ad519) l0_3.length c0_3) ∧ w'.cell? ad519 = some (.int .i64 ((rd_T26 l0_3 0).f0)) ∧ w'.cell? ⟨ad519.block, ad519.off + 1, none⟩ = some (.slice A519_1 ((rd_T26 l0_3 0).f1).length c519_1) ∧ w'.cell? ⟨ad519.block, ad519.off + 2, none⟩ = some (.slice A519_2 ((rd_T26 l0_3 0).f2).length c519_2) ∧ w'.cell? ⟨ad519.block, ad519.off + 3, none⟩ = some (.slice A519_3 ((rd_T26 l0_3 0).f3).length c519_3) ∧ w'.cell? ad520 = some (.int .i64 (rd l0_2 0))) (ds := []) (fun hHeld => ?_); refine with_tabW latheref14_at.tab48 latheref14_at.bits48 (fun HT_ HW_ => ?_)
    generalize wr.drew = w164 at HO_5 BK449 HB HR519_1 HR519_2 HR519_3 hx519_0 hx519_1 hx519_2 hx519_3 hx520_0 hHeld ⊢
    refine pu (i := 0) (N := some 263) ?_
    refine pu (i := 4) (N := some 267) ?_
    refine pu (i := 5) (N := some 268) ?_
    refine tk (i := 1) (N := some 264) ?_
    refine pu (i := 2) (N := some 265) ?_
    refine tk (i := 3) (N := some 266) ?_
    refine tk (i := 6) (N := some 269) ?_
    refine pu (i := 7) (N := some 270) ?_
    refine tk (i := 8) (N := some 271) ?_
    refine pu (i := 9) (N := some 272) ?_
    refine pu (i := 10) (N := some 273) ?_
    refine on (i := 11) (N := some 274) (fun K hK => ?_)
    refine goes_ Tryd.func32 (by kernel_rfl) rfl #[.agg #[.int .i64 ((rd_T26 l0_3 0).f0), .slice A519_1 ((rd_T26 l0_3 0).f1).length c519_1, .slice A519_2 ((rd_T26 l0_3 0).f2).length c519_2, .slice A519_3 ((rd_T26 l0_3 0).f3).length c519_3], .int .i64 ji161] (by rfl) rfl rfl (by (try simp only [List.map_toArray, List.map_cons, List.map_nil]); first | done | (simp only [hji161]; rfl) | rfl | (simp only [List.length_drop, List.length_take]; rfl)) ?_
    with_reducible refine (ih k1 (by have := HK1.out; omega) ((rd_T26 l0_3 0).f0) _ _ ((rd_T26 l0_3 0).f1) _ _ ((rd_T26 l0_3 0).f2) _ _ ((rd_T26 l0_3 0).f3) ji161 t521 _ (cb HR519_1) HC519_1.out (cb HR519_2) HC519_2.out (cb HR519_3) HC519_3.out A162.out).mono ?_
    rintro e w165 ⟨rfl, hb⟩
    refine ⟨_, rfl, ?_⟩
    replace HO_5 := ros HO_5 hb
    replace BK449 := bks BK449 hb
    replace HB := bst hb
    clear hb
    refine nx hK.out (fun hHeld => ?_)
    refine pu (i := 12) (N := some 4) ?_
    refine done_ (done_of HT_.out (by kernel_rfl)) ?_
    try go_wp2
    go_ret
    exact ⟨by first | rfl | (simp [errW_none, errW_some] <;> rfl) | (simp only [← hji161]; first | rfl | (simp [errW_none, errW_some] <;> rfl)) | (simp [*, errW_none, errW_some] <;> rfl), by repeat (first | (with_reducible first | exact HB.out | apply below_alloc | apply pw_below_drewN | apply below_drew1 | refine below_set ?_ GE449.out) | exact HB.out)⟩
   rw [if_neg c158] at H
   have c158b0 : (a0_0 == 12) = false := beq_eq_false_iff_ne.mpr c158
   have c158b1 : (a0_0 != 12) = true := bne_iff_ne.mpr c158
   by_cases c166 : a0_0 = 13
   ·rw [if_pos c166] at H
    have c166b0 : (a0_0 == 13) = true := beq_iff_eq.mpr c166
    have c166b1 : (a0_0 != 13) = false := bne_eq_false_iff_eq.mpr c166
    clear c166
    by_cases c167 : 0 < (l0_3.length : Int)
    rotate_left
    ·rw [if_neg c167] at H
     exact absurd H (by simp)
    rw [if_pos c167] at H
    have c167b0 := decide_eq_true c167
    have c167b1 : decide (0 < l0_3.length) = true := decide_eq_true (by omega)
    clear c167
    by_cases c168 : 0 < (l0_2.length : Int)
    rotate_left
    ·rw [if_neg c168] at H
     exact absurd H (by simp)
    rw [if_pos c168] at H
    have c168b0 := decide_eq_true c168
    have c168b1 : decide (0 < l0_2.length) = true := decide_eq_true (by omega)
    clear c168
    obtain ⟨ji169, hji169⟩ : ∃ j_ : Int, (mn a1 (rd l0_2 0)) = j_ := ⟨_, rfl⟩
    first | rw [hji169] at H | simp only [hji169] at H
    have hji169_ : (if (rd l0_2 0) < a1 then (rd l0_2 0) else a1) = ji169 := hji169
    replace H := Option.bind_eq_some_iff.mp H
    obtain ⟨t524, A1700, H⟩ := H
    have A170 := Aside0.mk A1700
    clear A1700
    obtain rfl := Option.some.inj H
    obtain ⟨_, _, _, _, _, _, _, _⟩ := bx4 BK449.out
    try go_wp2
    replace HO_5 := Aside0.mk (Kd.R_drew HO_5.out)
    replace BK449 := Aside0.mk (blk_drew BK449.out)
    replace HB := Aside0.mk (below_drew1 HB.out)
    have p522 : 0 ≤ (0 : Int) := (by omega)
    have q522 : 0 < (l0_3.length : Int) := of_decide_eq_true as_
    obtain ⟨ad522, A522_1, c522_1, A522_2, c522_2, A522_3, c522_3, e522, hx522_0, hx522_1, hx522_2, hx522_3, hl522_1, hi522_1, hl522_2, hi522_2, hl522_3, hi522_3⟩ := at_T26 HR0_3.out 0 p522 q522
    have hw522_3 := hx522_3
    rw [show ((0 : Int)).toNat = 0 from rfl] at hw522_3
    rw [show 0 * 4 = 0 from rfl] at hw522_3
    rw [Addr.add_zero'] at hw522_3
    have hw522_2 := hx522_2
    rw [show ((0 : Int)).toNat = 0 from rfl] at hw522_2
    rw [show 0 * 4 = 0 from rfl] at hw522_2
    rw [Addr.add_zero'] at hw522_2
    have hw522_1 := hx522_1
    rw [show ((0 : Int)).toNat = 0 from rfl] at hw522_1
    rw [show 0 * 4 = 0 from rfl] at hw522_1
    rw [Addr.add_zero'] at hw522_1
    have hw522_0 := hx522_0
    rw [show ((0 : Int)).toNat = 0 from rfl] at hw522_0
    rw [show 0 * 4 = 0 from rfl] at hw522_0
    rw [Addr.add_zero'] at hw522_0
    cases e522
    have qi522 : (0 < l0_3.length) = True := eq_true (by omega)
    rw [show ((0 : Int)).toNat = 0 from rfl] at hx522_0
    rw [show 0 * 4 = 0 from rfl] at hx522_0
    rw [Addr.add_zero'] at hx522_0
    rw [show ((0 : Int)).toNat = 0 from rfl] at hx522_1
    rw [show 0 * 4 = 0 from rfl] at hx522_1
    rw [Addr.add_zero'] at hx522_1
    rw [show ((0 : Int)).toNat = 0 from rfl] at hx522_2
    rw [show 0 * 4 = 0 from rfl] at hx522_2
    rw [Addr.add_zero'] at hx522_2
    rw [show ((0 : Int)).toNat = 0 from rfl] at hx522_3
    rw [show 0 * 4 = 0 from rfl] at hx522_3
    rw [Addr.add_zero'] at hx522_3
    replace hx522_0 := upc hx522_0
    replace hx522_1 := upc hx522_1
    replace hx522_2 := upc hx522_2
    replace hx522_3 := upc hx522_3
    have HR522_1 := Aside0.mk hi522_1
    have HC522_1 := Aside0.mk hl522_1
    clear hi522_1 hl522_1
    have HR522_2 := Aside0.mk hi522_2
    have HC522_2 := Aside0.mk hl522_2
    clear hi522_2 hl522_2
    have HR522_3 := Aside0.mk hi522_3
    have HC522_3 := Aside0.mk hl522_3
    clear hi522_3 hl522_3
    replace p522 := eq_true p522
    replace q522 := eq_true q522
    have p523 : 0 ≤ (0 : Int) := (by omega)
    have q523 : 0 < (l0_2.length : Int) := of_decide_eq_true as_
    obtain ⟨ad523, e523, hx523_0⟩ := Kd.at_int HR0_2.out 0 p523 q523
    have hw523_0 := hx523_0
    rw [show ((0 : Int)).toNat = 0 from rfl] at hw523_0
    rw [Addr.add_zero'] at hw523_0
    cases e523
    have qi523 : (0 < l0_2.length) = True := eq_true (by omega)
    rw [show ((0 : Int)).toNat = 0 from rfl] at hx523_0
    rw [Addr.add_zero'] at hx523_0
    replace hx523_0 := upc hx523_0
    replace p523 := eq_true p523
    replace q523 := eq_true q523
    refine st (S := fun w' => w'.cell? ⟨gb449, 0, none⟩ = some (.int .i64 a0_0) ∧ w'.cell? ⟨gb449, 1, none⟩ = some (.slice A0_1 l0_1.length c0_1) ∧ w'.cell? ⟨gb449, 2, none⟩ = some (.slice (some ad523) l0_2.length c0_2) ∧ w'.cell? ⟨gb449, 3, none⟩ = some (.slice (some ad522) l0_3.length c0_3) ∧ w'.cell? ad522 = some (.int .i64 ((rd_T26 l0_3 0).f0)) ∧ w'.cell? ⟨ad522.block, ad522.off + 1, none⟩ = some (.slice A522_1 ((rd_T26 l0_3 0).f1).length c522_1) ∧ w'.cell? ⟨ad522.block, ad522.off + 2, none⟩ = some (.slice A522_2 ((rd_T26 l0_3 0).f2).length c522_2) ∧ w'.cell? ⟨ad522.block, ad522.off + 3, none⟩ = some (.slice A522_3 ((rd_T26 l0_3 0).f3).length c522_3) ∧ w'.cell? ad523 = some (.int .i64 (rd l0_2 0))) (ds := []) (fun hHeld => ?_); refine with_tabW latheref14_at.tab50 latheref14_at.bits50 (fun HT_ HW_ => ?_)
    generalize wr.drew = w172 at HO_5 BK449 HB HR522_1 HR522_2 HR522_3 hx522_0 hx522_1 hx522_2 hx522_3 hx523_0 hHeld ⊢
    refine pu (i := 0) (N := some 277) ?_
    refine pu (i := 4) (N := some 281) ?_
    refine pu (i := 5) (N := some 282) ?_
    refine tk (i := 1) (N := some 278) ?_
    refine pu (i := 2) (N := some 279) ?_
    refine tk (i := 3) (N := some 280) ?_
    refine tk (i := 6) (N := some 283) ?_
    refine pu (i := 7) (N := some 284) ?_
    refine tk (i := 8) (N := some 285) ?_
    refine pu (i := 9) (N := some 286) ?_
    refine on (i := 10) (N := some 287) (fun K hK => ?_)
    refine goes_ Tryd.func32 (by kernel_rfl) rfl #[.agg #[.int .i64 ((rd_T26 l0_3 0).f0), .slice A522_1 ((rd_T26 l0_3 0).f1).length c522_1, .slice A522_2 ((rd_T26 l0_3 0).f2).length c522_2, .slice A522_3 ((rd_T26 l0_3 0).f3).length c522_3], .int .i64 ji169] (by rfl) rfl rfl (by (try simp only [List.map_toArray, List.map_cons, List.map_nil]); first | done | (simp only [hji169]; rfl) | rfl | (simp only [List.length_drop, List.length_take]; rfl)) ?_
    with_reducible refine (ih k1 (by have := HK1.out; omega) ((rd_T26 l0_3 0).f0) _ _ ((rd_T26 l0_3 0).f1) _ _ ((rd_T26 l0_3 0).f2) _ _ ((rd_T26 l0_3 0).f3) ji169 t524 _ (cb HR522_1) HC522_1.out (cb HR522_2) HC522_2.out (cb HR522_3) HC522_3.out A170.out).mono ?_
    rintro e w173 ⟨rfl, hb⟩
    refine ⟨_, rfl, ?_⟩
    replace HO_5 := ros HO_5 hb
    replace BK449 := bks BK449 hb
    replace HB := bst hb
    clear hb
    refine nx hK.out (fun hHeld => ?_)
    refine pu (i := 11) (N := some 4) ?_
    refine done_ (done_of HT_.out (by kernel_rfl)) ?_
    try go_wp2
    go_ret
    exact ⟨by first | rfl | (simp [errW_none, errW_some] <;> rfl) | (simp only [← hji169]; first | rfl | (simp [errW_none, errW_some] <;> rfl)) | (simp [*, errW_none, errW_some] <;> rfl), by repeat (first | (with_reducible first | exact HB.out | apply below_alloc | apply pw_below_drewN | apply below_drew1 | refine below_set ?_ GE449.out) | exact HB.out)⟩
   rw [if_neg c166] at H
   have c166b0 : (a0_0 == 13) = false := beq_eq_false_iff_ne.mpr c166
   have c166b1 : (a0_0 != 13) = true := bne_iff_ne.mpr c166
   by_cases c174 : 0 < (l0_2.length : Int)
   rotate_left
   ·rw [if_neg c174] at H
    exact absurd H (by simp)
   rw [if_pos c174] at H
   have c174b0 := decide_eq_true c174
   have c174b1 : decide (0 < l0_2.length) = true := decide_eq_true (by omega)
   clear c174
   replace H := Option.bind_eq_some_iff.mp H
   obtain ⟨t526, A1750, H⟩ := H
   have A175 := Aside0.mk A1750
   clear A1750
   obtain ⟨ji176, hji176⟩ : ∃ j_ : Int, (mx a1 (rd l0_2 0)) = j_ := ⟨_, rfl⟩
   first | rw [hji176] at H | simp only [hji176] at H
   have hji176_ : (if a1 < (rd l0_2 0) then (rd l0_2 0) else a1) = ji176 := hji176
   replace H := Option.bind_eq_some_iff.mp H
   obtain ⟨t528, A1770, H⟩ := H
   have A177 := Aside0.mk A1770
   clear A1770
   replace H := Option.bind_eq_some_iff.mp H
   obtain ⟨t529, A1780, H⟩ := H
   have A178 := Aside0.mk A1780
   clear A1780
   by_cases c179 : 0 < (x5_1.length : Int)
   rotate_left
   ·rw [if_neg c179] at H
    exact absurd H (by simp)
   rw [if_pos c179] at H
   have c179b0 := decide_eq_true c179
   have c179b1 : decide (0 < x5_1.length) = true := decide_eq_true (by omega)
   clear c179
   replace H := Option.bind_eq_some_iff.mp H
   obtain ⟨t531, A1800, H⟩ := H
   have A180 := Aside0.mk A1800
   clear A1800
   replace H := Option.bind_eq_some_iff.mp H
   obtain ⟨t532, A1810, H⟩ := H
   have A181 := Aside0.mk A1810
   clear A1810
   obtain rfl := Option.some.inj H
   obtain ⟨_, _, _, _, _, _, _, _⟩ := bx4 BK449.out
   try go_wp2
   replace HO_5 := Aside0.mk (Kd.R_drew HO_5.out)
   replace BK449 := Aside0.mk (blk_drew BK449.out)
   replace HB := Aside0.mk (below_drew1 HB.out)
   have p525 : 0 ≤ (0 : Int) := (by omega)
   have q525 : 0 < (l0_2.length : Int) := of_decide_eq_true as_
   obtain ⟨ad525, e525, hx525_0⟩ := Kd.at_int HR0_2.out 0 p525 q525
   have hw525_0 := hx525_0
   rw [show ((0 : Int)).toNat = 0 from rfl] at hw525_0
   rw [Addr.add_zero'] at hw525_0
   cases e525
   have qi525 : (0 < l0_2.length) = True := eq_true (by omega)
   rw [show ((0 : Int)).toNat = 0 from rfl] at hx525_0
   rw [Addr.add_zero'] at hx525_0
   replace hx525_0 := upc hx525_0
   replace p525 := eq_true p525
   replace q525 := eq_true q525
   have p527 : 0 ≤ (0 : Int) := (by omega)
   have q527 : 0 < (l0_2.length : Int) := of_decide_eq_true as_
   obtain ⟨ad527, e527, hx527_0⟩ := Kd.at_int HR0_2.out 0 p527 q527
   have hw527_0 := hx527_0
   rw [show ((0 : Int)).toNat = 0 from rfl] at hw527_0
   rw [Addr.add_zero'] at hw527_0
   obtain rfl : ad525 = ad527 := (by injection e527)
   have qi527 : (0 < l0_2.length) = True := eq_true (by omega)
   rw [show ((0 : Int)).toNat = 0 from rfl] at hx527_0
   rw [Addr.add_zero'] at hx527_0
   replace hx527_0 := upc hx527_0
   replace p527 := eq_true p527
   replace q527 := eq_true q527
   refine st (S := fun w' => w'.cell? ⟨gb449, 0, none⟩ = some (.int .i64 a0_0) ∧ w'.cell? ⟨gb449, 1, none⟩ = some (.slice A0_1 l0_1.length c0_1) ∧ w'.cell? ⟨gb449, 2, none⟩ = some (.slice (some ad525) l0_2.length c0_2) ∧ w'.cell? ⟨gb449, 3, none⟩ = some (.slice A0_3 l0_3.length c0_3) ∧ w'.cell? ad525 = some (.int .i64 (rd l0_2 0)) ∧ w'.cell? ad525 = some (.int .i64 (rd l0_2 0))) (ds := []) (fun hHeld => ?_); refine with_tabW latheref14_at.tab51 latheref14_at.bits51 (fun HT_ HW_ => ?_)
   generalize wr.drew = w183 at HO_5 BK449 HB hx525_0 hx527_0 hHeld ⊢
   refine pu (i := 0) (N := some 288) ?_
   refine pu (i := 5) (N := some 293) ?_
   refine pu (i := 6) (N := some 294) ?_
   refine tk (i := 1) (N := some 289) ?_
   refine pu (i := 2) (N := some 290) ?_
   refine tk (i := 3) (N := some 291) ?_
   refine tk (i := 7) (N := some 295) ?_
   refine pu (i := 8) (N := some 296) ?_
   refine tk (i := 9) (N := some 297) ?_
   refine pu (i := 10) (N := some 298) ?_
   refine on (i := 4) (N := some 292) (fun K hK => ?_)
   refine gB Tryd.func59 (latheref02_FromInt.calls k1 (rd l0_2 0) t526 _ A175.out) (fun w184 hb => ?_)
   replace HO_5 := ros HO_5 hb
   replace BK449 := bks BK449 hb
   replace HB := bst hb
   clear hb
   refine nx hK.out (fun hHeld => ?_)
   refine on (i := 11) (N := some 299) (fun K hK => ?_)
   refine goes_ Tryd.func59 (by kernel_rfl) rfl #[.int .i64 ji176] (by rfl) rfl rfl (by (try simp only [List.map_toArray, List.map_cons, List.map_nil]); first | done | (simp only [hji176]; rfl) | rfl | (simp only [List.length_drop, List.length_take]; rfl)) ?_
   with_reducible refine (latheref02_FromInt.calls k1 ji176 t528 _ A177.out).mono ?_
   rintro e w185 ⟨rfl, hb⟩
   refine ⟨_, rfl, ?_⟩
   replace HO_5 := ros HO_5 hb
   replace BK449 := bks BK449 hb
   replace HB := bst hb
   clear hb
   refine nx hK.out (fun hHeld => ?_)
   refine on (i := 12) (N := some 300) (fun K hK => ?_)
   refine gB Tryd.func58 (latheref02_Div.calls k1 t526 t528 t529 _ A178.out) (fun w186 hb => ?_)
   replace HO_5 := ros HO_5 hb
   replace BK449 := bks BK449 hb
   replace HB := bst hb
   clear hb
   refine nx hK.out (fun hHeld => ?_)
   refine pu (i := 13) (N := some 19) ?_
   refine done_ (done_of HT_.out (by kernel_rfl)) ?_
   try go_wp2
   replace HO_5 := Aside0.mk (Kd.R_drew HO_5.out)
   replace BK449 := Aside0.mk (blk_drew BK449.out)
   replace HB := Aside0.mk (below_drew1 HB.out)
   obtain ⟨Ao188, co188, eo188⟩ := Kd.R_slice HO_5.out
   (first | subst eo188 | (injection eo188 with f1_ f2_ f3_; have f4_ := f1_.symm; have f5_ := f3_.symm; clear f1_ f2_ f3_; subst f4_; subst f5_))
   have p530 : 0 ≤ (0 : Int) := (by omega)
   have q530 : 0 < (x5_1.length : Int) := of_decide_eq_true as_
   obtain ⟨ad530, e530, hx530_0⟩ := Kd.at_int (Kd.R_reads' HO_5.out).2.2 0 p530 q530
   cases e530
   have qi530 : (0 < x5_1.length) = True := eq_true (by omega)
   rw [show ((0 : Int)).toNat = 0 from rfl] at hx530_0
   rw [Addr.add_zero'] at hx530_0
   replace p530 := eq_true p530
   replace q530 := eq_true q530
   refine start_ (n := 7) (S := fun w' => w'.cell? ad530 = some (.int .i64 (rd x5_1 0))) (ds := []) #[false, false, false, false, false, false, false] (by kernel_rfl) rfl rfl (hx530_0) (fun hHeld => ?_)
   generalize w186.drew = w187 at HO_5 BK449 HB hx530_0 hHeld ⊢
   refine pure_ (i := 0) (N := some 301) (v := ?_) (a' := ?_) #[true, false, false, false, false, false, false] rfl rfl (by kernel_rfl) (fun _ _ _ h => h) (Or.inl ⟨by rfl, ?_⟩) ?_ ?_
   rotate_left
   ·intro w'
    go_simp
    with_reducible rfl
   rotate_left
   ·simp only [Act.put, List.setIfInBounds_toArray, List.set_cons_zero, List.set_cons_succ, i64_w, i32_w]
    rfl
   refine pure_ (i := 1) (N := some 302) (v := ?_) (a' := ?_) #[true, true, false, false, false, false, false] rfl rfl (by kernel_rfl) (fun _ _ _ h => h) (Or.inl ⟨by rfl, ?_⟩) ?_ ?_
   rotate_left
   ·intro w'
    go_simp
    with_reducible rfl
   rotate_left
   ·simp only [Act.put, List.setIfInBounds_toArray, List.set_cons_zero, List.set_cons_succ, i64_w, i32_w]
    rfl
   refine pure_ (i := 3) (N := some 304) (v := ?_) (a' := ?_) #[true, true, false, true, false, false, false] rfl rfl (by kernel_rfl) (fun _ _ _ h => h) (Or.inl ⟨by rfl, ?_⟩) ?_ ?_
   rotate_left
   ·intro w'
    go_simp
    with_reducible rfl
   rotate_left
   ·simp only [Act.put, List.setIfInBounds_toArray, List.set_cons_zero, List.set_cons_succ, i64_w, i32_w]
    rfl
   refine take_ (i := 2) (N := some 303) (v := ?_) (a' := ?_) #[true, true, true, true, false, false, false] rfl rfl (by kernel_rfl) (fun _ _ _ h => h) (Or.inl ⟨by rfl, ?_⟩) hHeld ?_ ?_
   rotate_left
   ·intro w' s0
    go_simp
    with_reducible rfl
   rotate_left
   ·simp only [Act.put, List.setIfInBounds_toArray, List.set_cons_zero, List.set_cons_succ, i64_w, i32_w]
    rfl
   refine one_ (i := 4) (N := some 305) #[true, true, true, true, true, false, false] rfl rfl (by kernel_rfl) (by decide) (fun K hK => ?_)
   refine gA Tryd.func61 #[.int .i64 t529] ?_
   with_reducible refine (latheref02_Sqrt.calls k1 t529 t531 _ A180.out).mono ?_
   rintro e w189 ⟨rfl, hb⟩
   have HS0_ := (hb.cell (World.block_lt_of_cell? _ _ (hHeld))).trans (hHeld)
   refine ⟨_, rfl, ?_⟩
   replace HO_5 := ros HO_5 hb
   replace BK449 := bks BK449 hb
   replace HB := bst hb
   clear hb
   refine nxt hK.out (HS0_) (fun hHeld => ?_)
   refine one_ (i := 5) (N := some 306) #[true, true, true, true, true, true, false] rfl rfl (by kernel_rfl) (by decide) (fun K hK => ?_)
   refine gA Tryd.func27 #[.int .i64 (rd x5_1 0), .int .i64 t531] ?_
   with_reducible refine (latheref02_Mul.calls k1 (rd x5_1 0) t531 t532 _ A181.out).mono ?_
   rintro e w190 ⟨rfl, hb⟩
   have HS0_ := (hb.cell (World.block_lt_of_cell? _ _ (hHeld))).trans (hHeld)
   refine ⟨_, rfl, ?_⟩
   replace HO_5 := ros HO_5 hb
   replace BK449 := bks BK449 hb
   replace HB := bst hb
   clear hb
   refine nxt hK.out (HS0_) (fun hHeld => ?_)
   refine pure_ (i := 6) (N := some 4) (v := ?_) (a' := ?_) #[true, true, true, true, true, true, true] rfl rfl (by kernel_rfl) (fun _ _ _ h => h) (Or.inl ⟨by rfl, ?_⟩) ?_ ?_
   rotate_left
   ·intro w'
    go_simp
    with_reducible rfl
   rotate_left
   ·simp only [Act.put, List.setIfInBounds_toArray, List.set_cons_zero, List.set_cons_succ, i64_w, i32_w]
    rfl
   refine done_ (by kernel_rfl) ?_
   try go_wp2
   go_ret
   exact ⟨by first | rfl | (simp [errW_none, errW_some] <;> rfl) | (simp only [← hji176]; first | rfl | (simp [errW_none, errW_some] <;> rfl)) | (simp [*, errW_none, errW_some] <;> rfl), by repeat (first | (with_reducible first | exact HB.out | apply below_alloc | apply pw_below_drewN | apply below_drew1 | refine below_set ?_ GE449.out) | exact HB.out)⟩

end Go.Proofs.YtmfladkimmnccaaDoor.PW
