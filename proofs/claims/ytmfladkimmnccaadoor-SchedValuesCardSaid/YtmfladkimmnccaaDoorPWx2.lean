/- The functions of the program that a statement reaches, as plain functions, and that the machine's calls do what these say. No condition. (Printed by a program.) -/
import Derived.Test.YtmfladkimmnccaaDoorPWx0
import Derived.Test.YtmfladkimmnccaaDoorPWxa
import Derived.Test.YtmfladkimmnccaaDoorPWx1
import Derived.Test.YtmfladkimmnccaaDoorWal
namespace Go.Proofs.YtmfladkimmnccaaDoor.PW
open Go.RowKit Go.Proofs.YtmfladkimmnccaaDoorW.PrintWords Go.Proofs.YtmfladkimmnccaaDoorW.PrintLast Go.Proofs.YtmfladkimmnccaaDoorW.PrintMore Go.Proofs.YtmfladkimmnccaaDoor.Sht
attribute [local go_sem] max2_int min2_int max_two min_two max_three min_three max_four min_four   -- for this text's walks alone
set_option linter.unusedVariables false
set_option linter.unusedSimpArgs false

/-! ### sched_at: function 30 -/
mutual
def sched_at.l0 : Nat → Int → Int → List Int → Int → Int → Int → List Int → List Int → List (S26) → Option (Int)
  | 0, _, _, _, _, _, _, _, _, _ => none
  | k + 1, x1, x13, x127, x128, x129, x122000, x122001, x122002, x122003 => if x129 < x128 then (if 0 ≤ x129 then (if x129 < (x127.length : Int) then (if (rd x127 x129) ≤ x1 then (if 0 ≤ (wrap64 (x129 + 1)) then (if (wrap64 (x129 + 1)) < (x122001.length : Int) then ((float_Mul.f x13 (rd x122001 (wrap64 (x129 + 1)))).bind fun t155 => (sched_at.l0 k x1 t155 x127 x128 (wrap64 (x129 + 1)) x122000 x122001 x122002 x122003)) else (none)) else (none)) else (sched_at.l0 k x1 x13 x127 x128 (wrap64 (x129 + 1)) x122000 x122001 x122002 x122003)) else (none)) else (none)) else (some x13)
def sched_at.l1 : Nat → Int → Int → Int → List Int → Int → Int → Int → List Int → List Int → List (S26) → Option (Int)
  | 0, _, _, _, _, _, _, _, _, _, _ => none
  | k + 1, x1, x16, x17, x150, x151, x152, x122000, x122001, x122002, x122003 => if x152 < x151 then (if 0 ≤ x152 then (if x152 < (x150.length : Int) then (if (rd x150 x152) ≤ x1 then (sched_at.l1 k x1 (wrap64 (x152 + 1)) (rd x150 x152) x150 x151 (wrap64 (x152 + 1)) x122000 x122001 x122002 x122003) else (sched_at.l1 k x1 x16 x17 x150 x151 (wrap64 (x152 + 1)) x122000 x122001 x122002 x122003)) else (none)) else (none)) else (if 0 ≤ x16 then (if x16 < (x122003.length : Int) then ((sched_at.f k ((rd_T26 x122003 x16).f0) ((rd_T26 x122003 x16).f1) ((rd_T26 x122003 x16).f2) ((rd_T26 x122003 x16).f3) (wrap64 (x1 - x17))).bind fun t158 => (some t158)) else (none)) else (none))
def sched_at.f : Nat → Int → List Int → List Int → List (S26) → Int → Option (Int)
  | 0, _, _, _, _, _ => none
  | k + 1, a0_0, l0_1, l0_2, l0_3, a1 => if a0_0 = 2 then (if 2 < (l0_2.length : Int) then (if 1 < (l0_2.length : Int) then ((sched_part.f (mn (mx (wrap64 (a1 - (rd l0_2 2))) 0) (rd l0_2 1)) (rd l0_2 1)).bind fun t125 => ((float_Sub.f 1065353216 t125).bind fun t126 => (if 0 < (l0_1.length : Int) then (if 1 < (l0_1.length : Int) then ((float_Sub.f (rd l0_1 0) (rd l0_1 1)).bind fun t129 => (if 0 < (l0_2.length : Int) then ((float_Power.f t126 (rd l0_2 0)).bind fun t131 => ((float_Mul.f t129 t131).bind fun t132 => ((float_Add.f t132 (rd l0_1 1)).bind fun t133 => (some t133)))) else (none))) else (none)) else (none)))) else (none)) else (none)) else (if a0_0 = 3 then (if 1 < (l0_2.length : Int) then (if 0 < (l0_2.length : Int) then (if (rd l0_2 0) = 0 then (none) else (if 0 < (l0_1.length : Int) then (if 1 < (l0_1.length : Int) then ((float_Power.f (rd l0_1 1) (wrap64 ((mx (wrap64 (a1 - (rd l0_2 1))) 0) / (rd l0_2 0)))).bind fun t138 => ((float_Mul.f (rd l0_1 0) t138).bind fun t139 => (some t139))) else (none)) else (none))) else (none)) else (none)) else (if a0_0 = 4 then (if 0 < (l0_1.length : Int) then (if 1 < (l0_1.length : Int) then (if 0 < (l0_2.length : Int) then ((sched_part.f (mn a1 (rd l0_2 0)) (rd l0_2 0)).bind fun t144 => ((sched_Wave.f t144).bind fun t145 => ((float_Add.f 1065353216 t145).bind fun t146 => ((float_Mul.f 1056964608 t146).bind fun t147 => ((float_Sub.f 1065353216 (rd l0_1 1)).bind fun t148 => ((float_Mul.f t148 t147).bind fun t149 => ((float_Add.f t149 (rd l0_1 1)).bind fun t150 => ((float_Mul.f t150 (rd l0_1 0)).bind fun t151 => (some t151))))))))) else (none)) else (none)) else (none)) else (if a0_0 = 5 then (if 0 < (l0_1.length : Int) then (sched_at.l0 k a1 (rd l0_1 0) l0_2 (l0_2.length : Int) 0 a0_0 l0_1 l0_2 l0_3) else (none)) else (if a0_0 = 6 then (sched_at.l1 k a1 0 0 l0_2 (l0_2.length : Int) 0 a0_0 l0_1 l0_2 l0_3) else (if a0_0 = 8 then (if 0 < (l0_3.length : Int) then ((sched_at.f k ((rd_T26 l0_3 0).f0) ((rd_T26 l0_3 0).f1) ((rd_T26 l0_3 0).f2) ((rd_T26 l0_3 0).f3) a1).bind fun t160 => (if 1 < (l0_3.length : Int) then ((sched_at.f k ((rd_T26 l0_3 1).f0) ((rd_T26 l0_3 1).f1) ((rd_T26 l0_3 1).f2) ((rd_T26 l0_3 1).f3) a1).bind fun t162 => ((float_Add.f t160 t162).bind fun t163 => (some t163))) else (none))) else (none)) else (if a0_0 = 9 then (if 0 < (l0_3.length : Int) then ((sched_at.f k ((rd_T26 l0_3 0).f0) ((rd_T26 l0_3 0).f1) ((rd_T26 l0_3 0).f2) ((rd_T26 l0_3 0).f3) a1).bind fun t165 => (if 1 < (l0_3.length : Int) then ((sched_at.f k ((rd_T26 l0_3 1).f0) ((rd_T26 l0_3 1).f1) ((rd_T26 l0_3 1).f2) ((rd_T26 l0_3 1).f3) a1).bind fun t167 => ((float_Mul.f t165 t167).bind fun t168 => (some t168))) else (none))) else (none)) else (if a0_0 = 10 then (if 0 < (l0_3.length : Int) then ((sched_at.f k ((rd_T26 l0_3 0).f0) ((rd_T26 l0_3 0).f1) ((rd_T26 l0_3 0).f2) ((rd_T26 l0_3 0).f3) a1).bind fun t170 => (if 1 < (l0_3.length : Int) then ((sched_at.f k ((rd_T26 l0_3 1).f0) ((rd_T26 l0_3 1).f1) ((rd_T26 l0_3 1).f2) ((rd_T26 l0_3 1).f3) a1).bind fun t172 => ((float_Min.f t170 t172).bind fun t173 => (some t173))) else (none))) else (none)) else (if a0_0 = 11 then (if 0 < (l0_3.length : Int) then ((sched_at.f k ((rd_T26 l0_3 0).f0) ((rd_T26 l0_3 0).f1) ((rd_T26 l0_3 0).f2) ((rd_T26 l0_3 0).f3) a1).bind fun t175 => (if 1 < (l0_3.length : Int) then ((sched_at.f k ((rd_T26 l0_3 1).f0) ((rd_T26 l0_3 1).f1) ((rd_T26 l0_3 1).f2) ((rd_T26 l0_3 1).f3) a1).bind fun t177 => ((float_Max.f t175 t177).bind fun t178 => (some t178))) else (none))) else (none)) else (if a0_0 = 12 then (if 0 < (l0_3.length : Int) then (if 0 < (l0_2.length : Int) then ((sched_at.f k ((rd_T26 l0_3 0).f0) ((rd_T26 l0_3 0).f1) ((rd_T26 l0_3 0).f2) ((rd_T26 l0_3 0).f3) (mx (wrap64 (a1 - (rd l0_2 0))) 0)).bind fun t181 => (some t181)) else (none)) else (none)) else (if a0_0 = 13 then (if 0 < (l0_3.length : Int) then (if 0 < (l0_2.length : Int) then ((sched_at.f k ((rd_T26 l0_3 0).f0) ((rd_T26 l0_3 0).f1) ((rd_T26 l0_3 0).f2) ((rd_T26 l0_3 0).f3) (mn a1 (rd l0_2 0))).bind fun t184 => (some t184)) else (none)) else (none)) else (if a0_0 = 7 then (if 0 < (l0_1.length : Int) then (if 0 < (l0_2.length : Int) then ((sched_part.f (rd l0_2 0) (mx a1 (rd l0_2 0))).bind fun t188 => ((float_Sqrt.f t188).bind fun t189 => ((float_Mul.f (rd l0_1 0) t189).bind fun t190 => (some t190)))) else (none)) else (none)) else (if 0 < (l0_1.length : Int) then ((float_Select.f 1065353216 (rd l0_1 0) (rd l0_1 0)).bind fun t193 => (some t193)) else (none)))))))))))))
end
theorem sched_at.mono_l : ∀ k, (∀ y0 y1 y2 y3 y4, LeO (sched_at.f k y0 y1 y2 y3 y4) (sched_at.f (k + 1) y0 y1 y2 y3 y4)) ∧ (∀ y0 y1 y2 y3 y4 y5 y6 y7 y8, LeO (sched_at.l0 k y0 y1 y2 y3 y4 y5 y6 y7 y8) (sched_at.l0 (k + 1) y0 y1 y2 y3 y4 y5 y6 y7 y8)) ∧ (∀ y0 y1 y2 y3 y4 y5 y6 y7 y8 y9, LeO (sched_at.l1 k y0 y1 y2 y3 y4 y5 y6 y7 y8 y9) (sched_at.l1 (k + 1) y0 y1 y2 y3 y4 y5 y6 y7 y8 y9))
  | 0 => ⟨fun _ _ _ _ _ r h => by simp [sched_at.f] at h, fun _ _ _ _ _ _ _ _ _ r h => by simp [sched_at.l0] at h, fun _ _ _ _ _ _ _ _ _ _ r h => by simp [sched_at.l1] at h⟩
  | k + 1 => by
    obtain ⟨ih0, ih1, ih2⟩ := sched_at.mono_l k
    refine ⟨?_, ?_, ?_⟩
    · intro y0 y1 y2 y3 y4
      unfold sched_at.f
      repeat' with_reducible first
       | exact ih0 _ _ _ _ _
       | exact ih1 _ _ _ _ _ _ _ _ _
       | exact ih2 _ _ _ _ _ _ _ _ _ _
       | exact LeO.refl _
       | exact LeO.none _
       | refine LeO.ite ?_ ?_
       | refine LeO.bind ?_ (fun _ => ?_)
    · intro y0 y1 y2 y3 y4 y5 y6 y7 y8
      unfold sched_at.l0
      repeat' with_reducible first
       | exact ih0 _ _ _ _ _
       | exact ih1 _ _ _ _ _ _ _ _ _
       | exact ih2 _ _ _ _ _ _ _ _ _ _
       | exact LeO.refl _
       | exact LeO.none _
       | refine LeO.ite ?_ ?_
       | refine LeO.bind ?_ (fun _ => ?_)
    · intro y0 y1 y2 y3 y4 y5 y6 y7 y8 y9
      unfold sched_at.l1
      repeat' with_reducible first
       | exact ih0 _ _ _ _ _
       | exact ih1 _ _ _ _ _ _ _ _ _
       | exact ih2 _ _ _ _ _ _ _ _ _ _
       | exact LeO.refl _
       | exact LeO.none _
       | refine LeO.ite ?_ ?_
       | refine LeO.bind ?_ (fun _ => ?_)
theorem sched_at.mono : ∀ a0 a1 a2 a3 a4 k, LeO (sched_at.f k a0 a1 a2 a3 a4) (sched_at.f (k + 1) a0 a1 a2 a3 a4) := by
  intro a0 a1 a2 a3 a4 k
  obtain ⟨ih0, ih1, ih2⟩ := sched_at.mono_l k
  exact ih0 a0 a1 a2 a3 a4
def sched_at.T3 : Bool × List (List Nat × List Nat) := (true, [([], []), ([], []), ([1], [1]), ([2], [2]), ([3], [3]), ([0, 4], [0, 4]), ([5], [5]), ([], []), ([7], [7]), ([8], [8]), ([9], [9]), ([6, 10], [6, 10]), ([11, 0, 1, 2, 3, 4, 5, 6, 7, 8, 9, 10, 11], [11])])
def sched_at.B3 : List Nat := [0, 0, 2, 6, 14, 31, 63, 0, 128, 384, 896, 2047, 4095]
theorem sched_at.tab3 : rtab .any (opsOf Tryd.f30 3) = sched_at.T3 := by kernel_rfl
theorem sched_at.bits3 : waitsOk sched_at.T3.2 sched_at.B3 = true := by kernel_rfl
def sched_at.T5 : Bool × List (List Nat × List Nat) := (true, [([], []), ([0], [0]), ([1], [1]), ([2], [2]), ([], []), ([4], [4]), ([5], [5]), ([6], [6]), ([3, 0, 1, 2, 3], [3]), ([7, 8, 0, 1, 2, 3, 4, 5, 6, 7, 8], [7])])
def sched_at.B5 : List Nat := [0, 1, 3, 7, 0, 16, 48, 112, 15, 511]
theorem sched_at.tab5 : rtab .any (opsOf Tryd.f30 5) = sched_at.T5 := by kernel_rfl
theorem sched_at.bits5 : waitsOk sched_at.T5.2 sched_at.B5 = true := by kernel_rfl
def sched_at.T6 : Bool × List (List Nat × List Nat) := (true, [([], []), ([], []), ([0, 1], [0, 1]), ([], []), ([], []), ([4], [4]), ([5], [5]), ([6], [6]), ([3, 7, 2], [3, 7]), ([2, 8, 8], [2, 8]), ([], []), ([9, 10, 9], [9, 10]), ([11, 11, 0, 1, 2, 3, 4, 5, 6, 7, 8, 9, 10, 11], [11])])
def sched_at.B6 : List Nat := [0, 0, 3, 0, 0, 16, 48, 112, 255, 511, 0, 2047, 4095]
theorem sched_at.tab6 : rtab .any (opsOf Tryd.f30 6) = sched_at.T6 := by kernel_rfl
theorem sched_at.bits6 : waitsOk sched_at.T6.2 sched_at.B6 = true := by kernel_rfl
def sched_at.T8 : Bool × List (List Nat × List Nat) := (true, [([], []), ([], []), ([1], [1]), ([2], [2]), ([3], [3]), ([0, 4], [0, 4]), ([5], [5]), ([], []), ([7], [7]), ([8], [8]), ([9], [9]), ([6, 10], [6, 10]), ([11, 0, 1, 2, 3, 4, 5, 6, 7, 8, 9, 10, 11], [11])])
def sched_at.B8 : List Nat := [0, 0, 2, 6, 14, 31, 63, 0, 128, 384, 896, 2047, 4095]
theorem sched_at.tab8 : rtab .any (opsOf Tryd.f30 8) = sched_at.T8 := by kernel_rfl
theorem sched_at.bits8 : waitsOk sched_at.T8.2 sched_at.B8 = true := by kernel_rfl
def sched_at.T9 : Bool × List (List Nat × List Nat) := (true, [([], []), ([0], [0]), ([1], [1]), ([2], [2]), ([], []), ([4], [4]), ([5], [5]), ([6], [6]), ([], []), ([7, 8], [7, 8]), ([3, 9, 9], [3, 9]), ([10, 10, 0, 1, 2, 3, 4, 5, 6, 7, 8, 9, 10], [10])])
def sched_at.B9 : List Nat := [0, 1, 3, 7, 0, 16, 48, 112, 0, 496, 1023, 2047]
theorem sched_at.tab9 : rtab .any (opsOf Tryd.f30 9) = sched_at.T9 := by kernel_rfl
theorem sched_at.bits9 : waitsOk sched_at.T9.2 sched_at.B9 = true := by kernel_rfl
def sched_at.T11 : Bool × List (List Nat × List Nat) := (true, [([], []), ([0], [0]), ([1], [1]), ([2], [2]), ([], []), ([4], [4]), ([5], [5]), ([6], [6]), ([3, 0, 1, 2, 3], [3]), ([7, 8, 0, 1, 2, 3, 4, 5, 6, 7, 8], [7])])
def sched_at.B11 : List Nat := [0, 1, 3, 7, 0, 16, 48, 112, 15, 511]
theorem sched_at.tab11 : rtab .any (opsOf Tryd.f30 11) = sched_at.T11 := by kernel_rfl
theorem sched_at.bits11 : waitsOk sched_at.T11.2 sched_at.B11 = true := by kernel_rfl
def sched_at.T12 : Bool × List (List Nat × List Nat) := (true, [([], []), ([], []), ([1], [1]), ([2], [2]), ([3], [3]), ([0, 4], [0, 4]), ([], []), ([6], [6]), ([7], [7]), ([8], [8]), ([5, 9], [5, 9]), ([10, 10], [10]), ([11, 11], [11]), ([12, 12], [12]), ([13, 13, 0, 1, 2, 3, 4, 5, 6, 7, 8, 9, 10, 11, 12, 13], [13])])
def sched_at.B12 : List Nat := [0, 0, 2, 6, 14, 31, 0, 64, 192, 448, 1023, 2047, 4095, 8191, 16383]
theorem sched_at.tab12 : rtab .any (opsOf Tryd.f30 12) = sched_at.T12 := by kernel_rfl
theorem sched_at.bits12 : waitsOk sched_at.T12.2 sched_at.B12 = true := by kernel_rfl
def sched_at.T33 : Bool × List (List Nat × List Nat) := (true, [([], []), ([0], [0]), ([1], [1]), ([2], [2]), ([], []), ([3, 4], [3, 4]), ([], []), ([6], [6]), ([7], [7]), ([8], [8]), ([], []), ([9, 10, 5], [9, 10]), ([5, 11, 11], [5, 11]), ([12, 12, 0, 1, 2, 3, 4, 5, 6, 7, 8, 9, 10, 11, 12], [12])])
def sched_at.B33 : List Nat := [0, 1, 3, 7, 0, 31, 0, 64, 192, 448, 0, 2047, 4095, 8191]
theorem sched_at.tab33 : rtab .any (opsOf Tryd.f30 33) = sched_at.T33 := by kernel_rfl
theorem sched_at.bits33 : waitsOk sched_at.T33.2 sched_at.B33 = true := by kernel_rfl
def sched_at.T35 : Bool × List (List Nat × List Nat) := (true, [([], []), ([0], [0]), ([1], [1]), ([2], [2]), ([], []), ([3, 4], [3, 4]), ([], []), ([6], [6]), ([7], [7]), ([8], [8]), ([], []), ([9, 10, 5], [9, 10]), ([5, 11, 11], [5, 11]), ([12, 12, 0, 1, 2, 3, 4, 5, 6, 7, 8, 9, 10, 11, 12], [12])])
def sched_at.B35 : List Nat := [0, 1, 3, 7, 0, 31, 0, 64, 192, 448, 0, 2047, 4095, 8191]
theorem sched_at.tab35 : rtab .any (opsOf Tryd.f30 35) = sched_at.T35 := by kernel_rfl
theorem sched_at.bits35 : waitsOk sched_at.T35.2 sched_at.B35 = true := by kernel_rfl
def sched_at.T37 : Bool × List (List Nat × List Nat) := (true, [([], []), ([0], [0]), ([1], [1]), ([2], [2]), ([], []), ([3, 4], [3, 4]), ([], []), ([6], [6]), ([7], [7]), ([8], [8]), ([], []), ([9, 10, 5], [9, 10]), ([5, 11, 11], [5, 11]), ([12, 12, 0, 1, 2, 3, 4, 5, 6, 7, 8, 9, 10, 11, 12], [12])])
def sched_at.B37 : List Nat := [0, 1, 3, 7, 0, 31, 0, 64, 192, 448, 0, 2047, 4095, 8191]
theorem sched_at.tab37 : rtab .any (opsOf Tryd.f30 37) = sched_at.T37 := by kernel_rfl
theorem sched_at.bits37 : waitsOk sched_at.T37.2 sched_at.B37 = true := by kernel_rfl
def sched_at.T39 : Bool × List (List Nat × List Nat) := (true, [([], []), ([0], [0]), ([1], [1]), ([2], [2]), ([], []), ([3, 4], [3, 4]), ([], []), ([6], [6]), ([7], [7]), ([8], [8]), ([], []), ([9, 10, 5], [9, 10]), ([5, 11, 11], [5, 11]), ([12, 12, 0, 1, 2, 3, 4, 5, 6, 7, 8, 9, 10, 11, 12], [12])])
def sched_at.B39 : List Nat := [0, 1, 3, 7, 0, 31, 0, 64, 192, 448, 0, 2047, 4095, 8191]
theorem sched_at.tab39 : rtab .any (opsOf Tryd.f30 39) = sched_at.T39 := by kernel_rfl
theorem sched_at.bits39 : waitsOk sched_at.T39.2 sched_at.B39 = true := by kernel_rfl
def sched_at.T41 : Bool × List (List Nat × List Nat) := (true, [([], []), ([0], [0]), ([1], [1]), ([2], [2]), ([], []), ([], []), ([5], [5]), ([6], [6]), ([7], [7]), ([4, 8], [4, 8]), ([9], [9]), ([3, 10], [3, 10]), ([11, 11, 0, 1, 2, 3, 4, 5, 6, 7, 8, 9, 10, 11], [11])])
def sched_at.B41 : List Nat := [0, 1, 3, 7, 0, 0, 32, 96, 224, 496, 1008, 2047, 4095]
theorem sched_at.tab41 : rtab .any (opsOf Tryd.f30 41) = sched_at.T41 := by kernel_rfl
theorem sched_at.bits41 : waitsOk sched_at.T41.2 sched_at.B41 = true := by kernel_rfl
def sched_at.T43 : Bool × List (List Nat × List Nat) := (true, [([], []), ([0], [0]), ([1], [1]), ([2], [2]), ([], []), ([], []), ([5], [5]), ([6], [6]), ([7], [7]), ([4, 8], [4, 8]), ([3, 9], [3, 9]), ([10, 10, 0, 1, 2, 3, 4, 5, 6, 7, 8, 9, 10], [10])])
def sched_at.B43 : List Nat := [0, 1, 3, 7, 0, 0, 32, 96, 224, 496, 1023, 2047]
theorem sched_at.tab43 : rtab .any (opsOf Tryd.f30 43) = sched_at.T43 := by kernel_rfl
theorem sched_at.bits43 : waitsOk sched_at.T43.2 sched_at.B43 = true := by kernel_rfl
def sched_at.T45 : Bool × List (List Nat × List Nat) := (true, [([], []), ([0], [0]), ([1], [1]), ([2], [2]), ([], []), ([4], [4]), ([5], [5]), ([6], [6]), ([], []), ([], []), ([9], [9]), ([10], [10]), ([11], [11]), ([8, 12], [8, 12]), ([7, 13], [7, 13]), ([14, 14], [14]), ([3, 15, 15], [3, 15]), ([16, 16, 0, 1, 2, 3, 4, 5, 6, 7, 8, 9, 10, 11, 12, 13, 14, 15, 16], [16])])
def sched_at.B45 : List Nat := [0, 1, 3, 7, 0, 16, 48, 112, 0, 0, 512, 1536, 3584, 7936, 16368, 32752, 65535, 131071]
theorem sched_at.tab45 : rtab .any (opsOf Tryd.f30 45) = sched_at.T45 := by kernel_rfl
theorem sched_at.bits45 : waitsOk sched_at.T45.2 sched_at.B45 = true := by kernel_rfl
def sched_at.T46 : Bool × List (List Nat × List Nat) := (true, [([], []), ([0], [0]), ([1], [1]), ([2], [2]), ([], []), ([4], [4]), ([5], [5]), ([6], [6]), ([3, 7], [3, 7]), ([8, 8, 0, 1, 2, 3, 4, 5, 6, 7, 8], [8])])
def sched_at.B46 : List Nat := [0, 1, 3, 7, 0, 16, 48, 112, 255, 511]
theorem sched_at.tab46 : rtab .any (opsOf Tryd.f30 46) = sched_at.T46 := by kernel_rfl
theorem sched_at.bits46 : waitsOk sched_at.T46.2 sched_at.B46 = true := by kernel_rfl

end Go.Proofs.YtmfladkimmnccaaDoor.PW
