/- The functions of the program that a statement reaches, as plain functions, and that the machine's calls do what these say. No condition. (Printed by a program.) -/
import Derived.Test.YtmfladkimmnccaaDoorPWx0
import Derived.Test.YtmfladkimmnccaaDoorPWxa
import Derived.Test.YtmfladkimmnccaaDoorPWx1
import Derived.Test.YtmfladkimmnccaaDoorPWx2
import Derived.Test.YtmfladkimmnccaaDoorWal
namespace Go.Proofs.YtmfladkimmnccaaDoor.PW
open Go.RowKit Go.Proofs.YtmfladkimmnccaaDoorW.PrintWords Go.Proofs.YtmfladkimmnccaaDoorW.PrintLast Go.Proofs.YtmfladkimmnccaaDoorW.PrintMore Go.Proofs.YtmfladkimmnccaaDoor.Sht
attribute [local go_sem] max2_int min2_int max_two min_two max_three min_three max_four min_four   -- for this text's walks alone
set_option linter.unusedVariables false
set_option linter.unusedSimpArgs false

set_option maxHeartbeats 8000000 in
set_option maxRecDepth 100000 in
theorem sched_at.calls (k : Nat) : ∀ (a0_0 : Int) (A0_1 : Option Addr) (c0_1 : Nat) (l0_1 : List Int) (A0_2 : Option Addr) (c0_2 : Nat) (l0_2 : List Int) (A0_3 : Option Addr) (c0_3 : Nat) (l0_3 : List (S26)) (a1 : Int) (r : Int) (w : World) (hl_ : Wav.Lies w) (hr0_1 : Kd.C (Kd.int .u32) w A0_1 l0_1.length l0_1) (hc0_1 : l0_1.length ≤ c0_1) (hr0_2 : Kd.C (Kd.int .i64) w A0_2 l0_2.length l0_2) (hc0_2 : l0_2.length ≤ c0_2) (hr0_3 : Kd.C k26 w A0_3 l0_3.length l0_3) (hc0_3 : l0_3.length ≤ c0_3) (h : sched_at.f k a0_0 l0_1 l0_2 l0_3 a1 = some r),
  Calls Tryd.prog 30 #[.agg #[.int .i64 a0_0, .slice A0_1 l0_1.length c0_1, .slice A0_2 l0_2.length c0_2, .slice A0_3 l0_3.length c0_3], .int .i64 a1] w fun e w' => e = .returned (.int .u32 r) ∧ Below w.heap.size w w' := by
 induction k using Nat.strongRecOn with
 | _ k ih =>
 intro a0_0 A0_1 c0_1 l0_1 A0_2 c0_2 l0_2 A0_3 c0_3 l0_3 a1 r w hl_ hr0_1 hc0_1 hr0_2 hc0_2 hr0_3 hc0_3 h
 cases k with
 | zero => exact absurd h (by simp [sched_at.f])
 | succ k =>
 simp only [sched_at.f] at h
 have hu26 := Tryd.underlying26
 have HR0_1 := Aside0.mk hr0_1
 have HC0_1 := Aside0.mk hc0_1
 clear hr0_1 hc0_1
 have HR0_2 := Aside0.mk hr0_2
 have HC0_2 := Aside0.mk hc0_2
 clear hr0_2 hc0_2
 have HR0_3 := Aside0.mk hr0_3
 have HC0_3 := Aside0.mk hc0_3
 clear hr0_3 hc0_3
 have HB := Aside0.mk (Below.refl w.heap.size w)
 have H : (if a0_0 = 2 then (if 2 < (l0_2.length : Int) then (if 1 < (l0_2.length : Int) then ((sched_part.f (mn (mx (wrap64 (a1 - (rd l0_2 2))) 0) (rd l0_2 1)) (rd l0_2 1)).bind fun t125 => ((float_Sub.f 1065353216 t125).bind fun t126 => (if 0 < (l0_1.length : Int) then (if 1 < (l0_1.length : Int) then ((float_Sub.f (rd l0_1 0) (rd l0_1 1)).bind fun t129 => (if 0 < (l0_2.length : Int) then ((float_Power.f t126 (rd l0_2 0)).bind fun t131 => ((float_Mul.f t129 t131).bind fun t132 => ((float_Add.f t132 (rd l0_1 1)).bind fun t133 => (some t133)))) else (none))) else (none)) else (none)))) else (none)) else (none)) else (if a0_0 = 3 then (if 1 < (l0_2.length : Int) then (if 0 < (l0_2.length : Int) then (if (rd l0_2 0) = 0 then (none) else (if 0 < (l0_1.length : Int) then (if 1 < (l0_1.length : Int) then ((float_Power.f (rd l0_1 1) (wrap64 ((mx (wrap64 (a1 - (rd l0_2 1))) 0) / (rd l0_2 0)))).bind fun t138 => ((float_Mul.f (rd l0_1 0) t138).bind fun t139 => (some t139))) else (none)) else (none))) else (none)) else (none)) else (if a0_0 = 4 then (if 0 < (l0_1.length : Int) then (if 1 < (l0_1.length : Int) then (if 0 < (l0_2.length : Int) then ((sched_part.f (mn a1 (rd l0_2 0)) (rd l0_2 0)).bind fun t144 => ((sched_Wave.f t144).bind fun t145 => ((float_Add.f 1065353216 t145).bind fun t146 => ((float_Mul.f 1056964608 t146).bind fun t147 => ((float_Sub.f 1065353216 (rd l0_1 1)).bind fun t148 => ((float_Mul.f t148 t147).bind fun t149 => ((float_Add.f t149 (rd l0_1 1)).bind fun t150 => ((float_Mul.f t150 (rd l0_1 0)).bind fun t151 => (some t151))))))))) else (none)) else (none)) else (none)) else (if a0_0 = 5 then (if 0 < (l0_1.length : Int) then (sched_at.l0 k a1 (rd l0_1 0) l0_2 (l0_2.length : Int) 0 a0_0 l0_1 l0_2 l0_3) else (none)) else (if a0_0 = 6 then (sched_at.l1 k a1 0 0 l0_2 (l0_2.length : Int) 0 a0_0 l0_1 l0_2 l0_3) else (if a0_0 = 8 then (if 0 < (l0_3.length : Int) then ((sched_at.f k ((rd_T26 l0_3 0).f0) ((rd_T26 l0_3 0).f1) ((rd_T26 l0_3 0).f2) ((rd_T26 l0_3 0).f3) a1).bind fun t160 => (if 1 < (l0_3.length : Int) then ((sched_at.f k ((rd_T26 l0_3 1).f0) ((rd_T26 l0_3 1).f1) ((rd_T26 l0_3 1).f2) ((rd_T26 l0_3 1).f3) a1).bind fun t162 => ((float_Add.f t160 t162).bind fun t163 => (some t163))) else (none))) else (none)) else (if a0_0 = 9 then (if 0 < (l0_3.length : Int) then ((sched_at.f k ((rd_T26 l0_3 0).f0) ((rd_T26 l0_3 0).f1) ((rd_T26 l0_3 0).f2) ((rd_T26 l0_3 0).f3) a1).bind fun t165 => (if 1 < (l0_3.length : Int) then ((sched_at.f k ((rd_T26 l0_3 1).f0) ((rd_T26 l0_3 1).f1) ((rd_T26 l0_3 1).f2) ((rd_T26 l0_3 1).f3) a1).bind fun t167 => ((float_Mul.f t165 t167).bind fun t168 => (some t168))) else (none))) else (none)) else (if a0_0 = 10 then (if 0 < (l0_3.length : Int) then ((sched_at.f k ((rd_T26 l0_3 0).f0) ((rd_T26 l0_3 0).f1) ((rd_T26 l0_3 0).f2) ((rd_T26 l0_3 0).f3) a1).bind fun t170 => (if 1 < (l0_3.length : Int) then ((sched_at.f k ((rd_T26 l0_3 1).f0) ((rd_T26 l0_3 1).f1) ((rd_T26 l0_3 1).f2) ((rd_T26 l0_3 1).f3) a1).bind fun t172 => ((float_Min.f t170 t172).bind fun t173 => (some t173))) else (none))) else (none)) else (if a0_0 = 11 then (if 0 < (l0_3.length : Int) then ((sched_at.f k ((rd_T26 l0_3 0).f0) ((rd_T26 l0_3 0).f1) ((rd_T26 l0_3 0).f2) ((rd_T26 l0_3 0).f3) a1).bind fun t175 => (if 1 < (l0_3.length : Int) then ((sched_at.f k ((rd_T26 l0_3 1).f0) ((rd_T26 l0_3 1).f1) ((rd_T26 l0_3 1).f2) ((rd_T26 l0_3 1).f3) a1).bind fun t177 => ((float_Max.f t175 t177).bind fun t178 => (some t178))) else (none))) else (none)) else (if a0_0 = 12 then (if 0 < (l0_3.length : Int) then (if 0 < (l0_2.length : Int) then ((sched_at.f k ((rd_T26 l0_3 0).f0) ((rd_T26 l0_3 0).f1) ((rd_T26 l0_3 0).f2) ((rd_T26 l0_3 0).f3) (mx (wrap64 (a1 - (rd l0_2 0))) 0)).bind fun t181 => (some t181)) else (none)) else (none)) else (if a0_0 = 13 then (if 0 < (l0_3.length : Int) then (if 0 < (l0_2.length : Int) then ((sched_at.f k ((rd_T26 l0_3 0).f0) ((rd_T26 l0_3 0).f1) ((rd_T26 l0_3 0).f2) ((rd_T26 l0_3 0).f3) (mn a1 (rd l0_2 0))).bind fun t184 => (some t184)) else (none)) else (none)) else (if a0_0 = 7 then (if 0 < (l0_1.length : Int) then (if 0 < (l0_2.length : Int) then ((sched_part.f (rd l0_2 0) (mx a1 (rd l0_2 0))).bind fun t188 => ((float_Sqrt.f t188).bind fun t189 => ((float_Mul.f (rd l0_1 0) t189).bind fun t190 => (some t190)))) else (none)) else (none)) else (if 0 < (l0_1.length : Int) then ((float_Select.f 1065353216 (rd l0_1 0) (rd l0_1 0)).bind fun t193 => (some t193)) else (none)))))))))))))) = some r := h
 clear h
 by_cases c3 : a0_0 = 2
 ·rw [if_pos c3] at H
  have c3b0 : (a0_0 == 2) = true := beq_iff_eq.mpr c3
  have c3b1 : (a0_0 != 2) = false := bne_eq_false_iff_eq.mpr c3
  clear c3
  by_cases c4 : 2 < (l0_2.length : Int)
  rotate_left
  ·rw [if_neg c4] at H
   exact absurd H (by simp)
  rw [if_pos c4] at H
  have c4b0 := decide_eq_true c4
  have c4b1 : decide (2 < l0_2.length) = true := decide_eq_true (by omega)
  clear c4
  obtain ⟨ji5, hji5⟩ : ∃ j_ : Int, (mx (wrap64 (a1 - (rd l0_2 2))) 0) = j_ := ⟨_, rfl⟩
  first | rw [hji5] at H | simp only [hji5] at H
  (have hji5l : 0 ≤ ji5 := by (rw [← hji5]; unfold mx; (repeat' split) <;> omega))
  (have hji5m : 0 ≤ ji5 := by omega)
  have hji5_ : (if (wrap64 (a1 - (rd l0_2 2))) < 0 then 0 else (wrap64 (a1 - (rd l0_2 2)))) = ji5 := hji5
  by_cases c6 : 1 < (l0_2.length : Int)
  rotate_left
  ·rw [if_neg c6] at H
   exact absurd H (by simp)
  rw [if_pos c6] at H
  have c6b0 := decide_eq_true c6
  have c6b1 : decide (1 < l0_2.length) = true := decide_eq_true (by omega)
  clear c6
  obtain ⟨ji7, hji7⟩ : ∃ j_ : Int, (mn (ji5) (rd l0_2 1)) = j_ := ⟨_, rfl⟩
  first | rw [hji7] at H | simp only [hji7] at H
  have hji7_ : (if (rd l0_2 1) < (ji5) then (rd l0_2 1) else (ji5)) = ji7 := hji7
  replace H := Option.bind_eq_some_iff.mp H
  obtain ⟨t125, A80, H⟩ := H
  have A8 := Aside0.mk A80
  clear A80
  replace H := Option.bind_eq_some_iff.mp H
  obtain ⟨t126, A90, H⟩ := H
  have A9 := Aside0.mk A90
  clear A90
  by_cases c10 : 0 < (l0_1.length : Int)
  rotate_left
  ·rw [if_neg c10] at H
   exact absurd H (by simp)
  rw [if_pos c10] at H
  have c10b0 := decide_eq_true c10
  have c10b1 : decide (0 < l0_1.length) = true := decide_eq_true (by omega)
  clear c10
  by_cases c11 : 1 < (l0_1.length : Int)
  rotate_left
  ·rw [if_neg c11] at H
   exact absurd H (by simp)
  rw [if_pos c11] at H
  have c11b0 := decide_eq_true c11
  have c11b1 : decide (1 < l0_1.length) = true := decide_eq_true (by omega)
  clear c11
  replace H := Option.bind_eq_some_iff.mp H
  obtain ⟨t129, A120, H⟩ := H
  have A12 := Aside0.mk A120
  clear A120
  by_cases c13 : 0 < (l0_2.length : Int)
  rotate_left
  ·rw [if_neg c13] at H
   exact absurd H (by simp)
  rw [if_pos c13] at H
  have c13b0 := decide_eq_true c13
  have c13b1 : decide (0 < l0_2.length) = true := decide_eq_true (by omega)
  clear c13
  replace H := Option.bind_eq_some_iff.mp H
  obtain ⟨t131, A140, H⟩ := H
  have A14 := Aside0.mk A140
  clear A140
  replace H := Option.bind_eq_some_iff.mp H
  obtain ⟨t132, A150, H⟩ := H
  have A15 := Aside0.mk A150
  clear A150
  replace H := Option.bind_eq_some_iff.mp H
  obtain ⟨t133, A160, H⟩ := H
  have A16 := Aside0.mk A160
  clear A160
  obtain rfl := Option.some.inj H
  go_enter Tryd.func30, Tryd.ntmps30
  try go_wp2_with (first | ((with_reducible refine gate_dst (N := 2) rfl ?_); refine box_event ?hg (N := 2) ?hd (cs := #[.int .i64 a0_0, .slice A0_1 l0_1.length c0_1, .slice A0_2 l0_2.length c0_2, .slice A0_3 l0_3.length c0_3]) (t := 26) ?hr ?_; (case hd => rfl); (case hg => rfl); (case hr => first | (go_simp; done) | (go_simp; rfl)); intro gb121 hg w17 hbox hb; have BK121 := Aside0.mk (hbox); have GW121 := bsz (w := w) hg; have GE121 := bsz (w := w) hg; replace HB := bst hb; clear hb hbox hg; obtain ⟨_, _, _, _, _, _, _, _⟩ := bx4 BK121.out))
  replace BK121 := Aside0.mk (blk_drew BK121.out)
  replace HB := Aside0.mk (below_drew1 HB.out)
  have p122 : 0 ≤ (2 : Int) := (by omega)
  have q122 : 2 < (l0_2.length : Int) := of_decide_eq_true as_
  obtain ⟨ad122, e122, hx122_0⟩ := Kd.at_int HR0_2.out 2 p122 q122
  have hw122_0 := hx122_0
  rw [show ((2 : Int)).toNat = 2 from rfl] at hw122_0
  simp only [Nat.reduceMul, Nat.reduceEqDiff, Go.Addr.add, ↓reduceIte] at hw122_0
  cases e122
  simp only [show (2 : Int).toNat = 2 from rfl, Nat.reduceMul, Nat.reduceEqDiff, Go.Addr.add, ↓reduceIte] at hx122_0
  have qi122 : (2 < l0_2.length) = True := eq_true (by omega)
  replace hx122_0 := upc hx122_0
  replace p122 := eq_true p122
  replace q122 := eq_true q122
  have p123 : 0 ≤ (1 : Int) := (by omega)
  have q123 : 1 < (l0_2.length : Int) := of_decide_eq_true as_
  obtain ⟨ad123, e123, hx123_0⟩ := Kd.at_int HR0_2.out 1 p123 q123
  have hw123_0 := hx123_0
  rw [show ((1 : Int)).toNat = 1 from rfl] at hw123_0
  simp only [Nat.reduceMul, Nat.reduceEqDiff, Go.Addr.add, ↓reduceIte] at hw123_0
  obtain rfl : ad122 = ad123 := (by injection e123)
  simp only [show (1 : Int).toNat = 1 from rfl, Nat.reduceMul, Nat.reduceEqDiff, Go.Addr.add, ↓reduceIte] at hx123_0
  have qi123 : (1 < l0_2.length) = True := eq_true (by omega)
  replace hx123_0 := upc hx123_0
  replace p123 := eq_true p123
  replace q123 := eq_true q123
  refine st (S := fun w' => w'.cell? ⟨gb121, 0, none⟩ = some (.int .i64 a0_0) ∧ w'.cell? ⟨gb121, 1, none⟩ = some (.slice A0_1 l0_1.length c0_1) ∧ w'.cell? ⟨gb121, 2, none⟩ = some (.slice (some ad122) l0_2.length c0_2) ∧ w'.cell? ⟨gb121, 3, none⟩ = some (.slice A0_3 l0_3.length c0_3) ∧ w'.cell? ⟨ad122.block, ad122.off + 2, none⟩ = some (.int .i64 (rd l0_2 2)) ∧ w'.cell? ⟨ad122.block, ad122.off + 1, none⟩ = some (.int .i64 (rd l0_2 1))) (ds := []) (fun hHeld => ?_); refine with_tabW sched_at.tab3 sched_at.bits3 (fun HT_ HW_ => ?_)
  generalize w17.drew = w19 at BK121 HB hx122_0 hx123_0 hHeld ⊢
  refine pu (i := 0) (N := some 24) ?_
  refine pu (i := 1) (N := some 25) ?_
  refine pu (i := 7) (N := some 31) ?_
  refine tk (i := 2) (N := some 26) ?_
  refine pu (i := 3) (N := some 27) ?_
  refine tk (i := 4) (N := some 28) ?_
  refine pu (i := 5) (N := some 29) ?_
  refine pu (i := 6) (N := some 30) ?_
  refine tk (i := 8) (N := some 32) ?_
  refine pu (i := 9) (N := some 33) ?_
  refine tk (i := 10) (N := some 34) ?_
  refine pu (i := 11) (N := some 35) ?_
  refine pu (i := 12) (N := some 5) ?_
  refine done_ (done_of HT_.out (by kernel_rfl)) ?_
  obtain ⟨_, _, _, _, _, _, _, _⟩ := bx4 BK121.out
  have p124 : 0 ≤ (1 : Int) := (by omega)
  have q124 : 1 < (l0_2.length : Int) := of_decide_eq_true as_
  obtain ⟨ad124, e124, hx124_0⟩ := Kd.at_int HR0_2.out 1 p124 q124
  obtain rfl : ad122 = ad124 := (by injection e124)
  simp only [show (1 : Int).toNat = 1 from rfl, Nat.reduceMul, Nat.reduceEqDiff, Go.Addr.add, ↓reduceIte] at hx124_0
  have qi124 : (1 < l0_2.length) = True := eq_true (by omega)
  replace hx124_0 := upc hx124_0
  replace p124 := eq_true p124
  replace q124 := eq_true q124
  try go_wp2_with (first | ((with_reducible refine gate_callee (f := 54) rfl ?_); refine goesL_ (some 41) rfl rfl Tryd.func54 (by kernel_rfl) rfl #[.int .i64 ji7, .int .i64 (rd l0_2 1)] rfl (by (try simp only [List.map_toArray, List.map_cons, List.map_nil]); first | done | (simp only [hji7]; rfl) | rfl | (simp only [List.length_drop, List.length_take]; rfl)) ?_; (with_reducible refine (sched_part.calls ji7 (rd l0_2 1) t125 _ A8.out).mono ?_); clear A8; rintro e w' ⟨rfl, ⟨nd, rfl⟩⟩; refine ⟨_, rfl, ?_⟩) | ((with_reducible refine gate_callee (f := 39) rfl ?_); refine gL (some 42) Tryd.func39 #[.int .u32 1065353216, .int .u32 t125] ?_; (with_reducible refine (float_Sub.calls 1065353216 t125 t126 _ A9.out).mono ?_); clear A9; rintro e w' ⟨rfl, ⟨nd, rfl⟩⟩; refine ⟨_, rfl, ?_⟩))
  (rw [drewN_self w19]; generalize hq_ : World.drewN w19 _ = w19; have n0_ : Aside0 (w19.heap[gb121]? = some (.cells #[.int .i64 a0_0, .slice A0_1 l0_1.length c0_1, .slice (some ad122) l0_2.length c0_2, .slice A0_3 l0_3.length c0_3] 26 (0, 0))) := ⟨by rw [← hq_]; exact bkk⟩; have n1_ : Aside0 (Below w.heap.size w w19) := ⟨by rw [← hq_]; exact hbb⟩; clear BK121 HB hq_; have BK121 := n0_; have HB := n1_; clear n0_ n1_)
  replace BK121 := Aside0.mk (blk_drew BK121.out)
  replace HB := Aside0.mk (below_drew1 HB.out)
  have p127 : 0 ≤ (0 : Int) := (by omega)
  have q127 : 0 < (l0_1.length : Int) := of_decide_eq_true as_
  obtain ⟨ad127, e127, hx127_0⟩ := Kd.at_int HR0_1.out 0 p127 q127
  have hw127_0 := hx127_0
  rw [show ((0 : Int)).toNat = 0 from rfl] at hw127_0
  rw [Addr.add_zero'] at hw127_0
  cases e127
  have qi127 : (0 < l0_1.length) = True := eq_true (by omega)
  rw [show ((0 : Int)).toNat = 0 from rfl] at hx127_0
  rw [Addr.add_zero'] at hx127_0
  replace hx127_0 := upc hx127_0
  replace p127 := eq_true p127
  replace q127 := eq_true q127
  have p128 : 0 ≤ (1 : Int) := (by omega)
  have q128 : 1 < (l0_1.length : Int) := of_decide_eq_true as_
  obtain ⟨ad128, e128, hx128_0⟩ := Kd.at_int HR0_1.out 1 p128 q128
  have hw128_0 := hx128_0
  rw [show ((1 : Int)).toNat = 1 from rfl] at hw128_0
  simp only [Nat.reduceMul, Nat.reduceEqDiff, Go.Addr.add, ↓reduceIte] at hw128_0
  obtain rfl : ad127 = ad128 := (by injection e128)
  simp only [show (1 : Int).toNat = 1 from rfl, Nat.reduceMul, Nat.reduceEqDiff, Go.Addr.add, ↓reduceIte] at hx128_0
  have qi128 : (1 < l0_1.length) = True := eq_true (by omega)
  replace hx128_0 := upc hx128_0
  replace p128 := eq_true p128
  replace q128 := eq_true q128
  refine st (S := fun w' => w'.cell? ⟨gb121, 0, none⟩ = some (.int .i64 a0_0) ∧ w'.cell? ⟨gb121, 1, none⟩ = some (.slice (some ad127) l0_1.length c0_1) ∧ w'.cell? ⟨gb121, 2, none⟩ = some (.slice (some ad122) l0_2.length c0_2) ∧ w'.cell? ⟨gb121, 3, none⟩ = some (.slice A0_3 l0_3.length c0_3) ∧ w'.cell? ad127 = some (.int .u32 (rd l0_1 0)) ∧ w'.cell? ⟨ad127.block, ad127.off + 1, none⟩ = some (.int .u32 (rd l0_1 1))) (ds := []) (fun hHeld => ?_); refine with_tabW sched_at.tab5 sched_at.bits5 (fun HT_ HW_ => ?_)
  generalize w19.drew = w21 at BK121 HB hx127_0 hx128_0 hHeld ⊢
  refine pu (i := 0) (N := some 43) ?_
  refine pu (i := 4) (N := some 47) ?_
  refine tk (i := 1) (N := some 44) ?_
  refine pu (i := 2) (N := some 45) ?_
  refine tk (i := 3) (N := some 46) ?_
  refine pu (i := 8) (N := some 7) ?_
  refine tk (i := 5) (N := some 48) ?_
  refine pu (i := 6) (N := some 49) ?_
  refine tk (i := 7) (N := some 50) ?_
  refine pu (i := 9) (N := some 8) ?_
  refine done_ (done_of HT_.out (by kernel_rfl)) ?_
  try go_wp2
  replace BK121 := Aside0.mk (blk_drew BK121.out)
  replace HB := Aside0.mk (below_drew1 HB.out)
  have p130 : 0 ≤ (0 : Int) := (by omega)
  have q130 : 0 < (l0_2.length : Int) := of_decide_eq_true as_
  obtain ⟨ad130, e130, hx130_0⟩ := Kd.at_int HR0_2.out 0 p130 q130
  have hw130_0 := hx130_0
  rw [show ((0 : Int)).toNat = 0 from rfl] at hw130_0
  rw [Addr.add_zero'] at hw130_0
  obtain rfl : ad122 = ad130 := (by injection e130)
  have qi130 : (0 < l0_2.length) = True := eq_true (by omega)
  rw [show ((0 : Int)).toNat = 0 from rfl] at hx130_0
  rw [Addr.add_zero'] at hx130_0
  replace hx130_0 := upc hx130_0
  replace p130 := eq_true p130
  replace q130 := eq_true q130
  refine st (S := fun w' => w'.cell? ⟨gb121, 0, none⟩ = some (.int .i64 a0_0) ∧ w'.cell? ⟨gb121, 1, none⟩ = some (.slice (some ad127) l0_1.length c0_1) ∧ w'.cell? ⟨gb121, 2, none⟩ = some (.slice (some ad122) l0_2.length c0_2) ∧ w'.cell? ⟨gb121, 3, none⟩ = some (.slice A0_3 l0_3.length c0_3) ∧ w'.cell? ad122 = some (.int .i64 (rd l0_2 0))) (ds := []) (fun hHeld => ?_); refine with_tabW sched_at.tab6 sched_at.bits6 (fun HT_ HW_ => ?_)
  generalize w21.drew = w22 at BK121 HB hx130_0 hHeld ⊢
  refine pu (i := 0) (N := some 51) ?_
  refine pu (i := 1) (N := some 52) ?_
  refine pu (i := 3) (N := some 54) ?_
  refine pu (i := 4) (N := some 55) ?_
  refine pu (i := 10) (N := some 61) ?_
  refine tk (i := 5) (N := some 56) ?_
  refine pu (i := 6) (N := some 57) ?_
  refine tk (i := 7) (N := some 58) ?_
  refine on (i := 2) (N := some 53) (fun K hK => ?_)
  refine gA Tryd.func39 #[.int .u32 (rd l0_1 0), .int .u32 (rd l0_1 1)] ?_
  with_reducible refine (float_Sub.calls (rd l0_1 0) (rd l0_1 1) t129 _ A12.out).mono ?_
  rintro e w' ⟨rfl, ⟨nd, rfl⟩⟩
  refine ⟨_, rfl, ?_⟩
  refine nx hK.out (fun hHeld => ?_)
  refine on (i := 8) (N := some 59) (fun K hK => ?_)
  refine gA Tryd.func55 #[.int .u32 t126, .int .i64 (rd l0_2 0)] ?_
  with_reducible refine (float_Power.calls t126 (rd l0_2 0) t131 _ A14.out).mono ?_
  rintro e w' ⟨rfl, ⟨nd, rfl⟩⟩
  refine ⟨_, rfl, ?_⟩
  refine nx hK.out (fun hHeld => ?_)
  refine on (i := 9) (N := some 60) (fun K hK => ?_)
  refine gA Tryd.func40 #[.int .u32 t129, .int .u32 t131] ?_
  with_reducible refine (float_Mul.calls t129 t131 t132 _ A15.out).mono ?_
  rintro e w' ⟨rfl, ⟨nd, rfl⟩⟩
  refine ⟨_, rfl, ?_⟩
  refine nx hK.out (fun hHeld => ?_)
  refine on (i := 11) (N := some 62) (fun K hK => ?_)
  refine gA Tryd.func41 #[.int .u32 t132, .int .u32 (rd l0_1 1)] ?_
  with_reducible refine (float_Add.calls t132 (rd l0_1 1) t133 _ A16.out).mono ?_
  rintro e w' ⟨rfl, ⟨nd, rfl⟩⟩
  refine ⟨_, rfl, ?_⟩
  refine nx hK.out (fun hHeld => ?_)
  refine pu (i := 12) (N := some 4) ?_
  refine done_ (done_of HT_.out (by kernel_rfl)) ?_
  try go_wp2
  go_ret
  exact ⟨by first | rfl | (simp [errW_none, errW_some] <;> rfl) | (simp only [← hji5, ← hji7]; first | rfl | (simp [errW_none, errW_some] <;> rfl)) | (simp [*, errW_none, errW_some] <;> rfl), by repeat (first | (with_reducible first | exact HB.out | apply below_alloc | apply pw_below_drewN | apply below_drew1 | refine below_set ?_ GE121.out) | exact HB.out)⟩
 rw [if_neg c3] at H
 have c3b0 : (a0_0 == 2) = false := beq_eq_false_iff_ne.mpr c3
 have c3b1 : (a0_0 != 2) = true := bne_iff_ne.mpr c3
 by_cases c23 : a0_0 = 3
 ·rw [if_pos c23] at H
  have c23b0 : (a0_0 == 3) = true := beq_iff_eq.mpr c23
  have c23b1 : (a0_0 != 3) = false := bne_eq_false_iff_eq.mpr c23
  clear c23
  by_cases c24 : 1 < (l0_2.length : Int)
  rotate_left
  ·rw [if_neg c24] at H
   exact absurd H (by simp)
  rw [if_pos c24] at H
  have c24b0 := decide_eq_true c24
  have c24b1 : decide (1 < l0_2.length) = true := decide_eq_true (by omega)
  clear c24
  obtain ⟨ji25, hji25⟩ : ∃ j_ : Int, (mx (wrap64 (a1 - (rd l0_2 1))) 0) = j_ := ⟨_, rfl⟩
  first | rw [hji25] at H | simp only [hji25] at H
  (have hji25l : 0 ≤ ji25 := by (rw [← hji25]; unfold mx; (repeat' split) <;> omega))
  (have hji25m : 0 ≤ ji25 := by omega)
  have hji25_ : (if (wrap64 (a1 - (rd l0_2 1))) < 0 then 0 else (wrap64 (a1 - (rd l0_2 1)))) = ji25 := hji25
  by_cases c26 : 0 < (l0_2.length : Int)
  rotate_left
  ·rw [if_neg c26] at H
   exact absurd H (by simp)
  rw [if_pos c26] at H
  have c26b0 := decide_eq_true c26
  have c26b1 : decide (0 < l0_2.length) = true := decide_eq_true (by omega)
  clear c26
  by_cases c27 : (rd l0_2 0) = 0
  ·rw [if_pos c27] at H
   exact absurd H (by simp)
  rw [if_neg c27] at H
  have c27b0 : ((rd l0_2 0) == 0) = false := beq_eq_false_iff_ne.mpr c27
  have c27b1 : ((rd l0_2 0) != 0) = true := bne_iff_ne.mpr c27
  by_cases c28 : 0 < (l0_1.length : Int)
  rotate_left
  ·rw [if_neg c28] at H
   exact absurd H (by simp)
  rw [if_pos c28] at H
  have c28b0 := decide_eq_true c28
  have c28b1 : decide (0 < l0_1.length) = true := decide_eq_true (by omega)
  clear c28
  by_cases c29 : 1 < (l0_1.length : Int)
  rotate_left
  ·rw [if_neg c29] at H
   exact absurd H (by simp)
  rw [if_pos c29] at H
  have c29b0 := decide_eq_true c29
  have c29b1 : decide (1 < l0_1.length) = true := decide_eq_true (by omega)
  clear c29
  replace H := Option.bind_eq_some_iff.mp H
  obtain ⟨t138, A300, H⟩ := H
  have A30 := Aside0.mk A300
  clear A300
  replace H := Option.bind_eq_some_iff.mp H
  obtain ⟨t139, A310, H⟩ := H
  have A31 := Aside0.mk A310
  clear A310
  obtain rfl := Option.some.inj H
  go_enter Tryd.func30, Tryd.ntmps30
  try go_wp2_with (first | ((with_reducible refine gate_dst (N := 2) rfl ?_); refine box_event ?hg (N := 2) ?hd (cs := #[.int .i64 a0_0, .slice A0_1 l0_1.length c0_1, .slice A0_2 l0_2.length c0_2, .slice A0_3 l0_3.length c0_3]) (t := 26) ?hr ?_; (case hd => rfl); (case hg => rfl); (case hr => first | (go_simp; done) | (go_simp; rfl)); intro gb121 hg w32 hbox hb; have BK121 := Aside0.mk (hbox); have GW121 := bsz (w := w) hg; have GE121 := bsz (w := w) hg; replace HB := bst hb; clear hb hbox hg; obtain ⟨_, _, _, _, _, _, _, _⟩ := bx4 BK121.out))
  replace BK121 := Aside0.mk (blk_drew BK121.out)
  replace HB := Aside0.mk (below_drew1 HB.out)
  have p134 : 0 ≤ (1 : Int) := (by omega)
  have q134 : 1 < (l0_2.length : Int) := of_decide_eq_true as_
  obtain ⟨ad134, e134, hx134_0⟩ := Kd.at_int HR0_2.out 1 p134 q134
  have hw134_0 := hx134_0
  rw [show ((1 : Int)).toNat = 1 from rfl] at hw134_0
  simp only [Nat.reduceMul, Nat.reduceEqDiff, Go.Addr.add, ↓reduceIte] at hw134_0
  cases e134
  simp only [show (1 : Int).toNat = 1 from rfl, Nat.reduceMul, Nat.reduceEqDiff, Go.Addr.add, ↓reduceIte] at hx134_0
  have qi134 : (1 < l0_2.length) = True := eq_true (by omega)
  replace hx134_0 := upc hx134_0
  replace p134 := eq_true p134
  replace q134 := eq_true q134
  have p135 : 0 ≤ (0 : Int) := (by omega)
  have q135 : 0 < (l0_2.length : Int) := of_decide_eq_true as_
  obtain ⟨ad135, e135, hx135_0⟩ := Kd.at_int HR0_2.out 0 p135 q135
  have hw135_0 := hx135_0
  rw [show ((0 : Int)).toNat = 0 from rfl] at hw135_0
  rw [Addr.add_zero'] at hw135_0
  obtain rfl : ad134 = ad135 := (by injection e135)
  have qi135 : (0 < l0_2.length) = True := eq_true (by omega)
  rw [show ((0 : Int)).toNat = 0 from rfl] at hx135_0
  rw [Addr.add_zero'] at hx135_0
  replace hx135_0 := upc hx135_0
  replace p135 := eq_true p135
  replace q135 := eq_true q135
  refine st (S := fun w' => w'.cell? ⟨gb121, 0, none⟩ = some (.int .i64 a0_0) ∧ w'.cell? ⟨gb121, 1, none⟩ = some (.slice A0_1 l0_1.length c0_1) ∧ w'.cell? ⟨gb121, 2, none⟩ = some (.slice (some ad134) l0_2.length c0_2) ∧ w'.cell? ⟨gb121, 3, none⟩ = some (.slice A0_3 l0_3.length c0_3) ∧ w'.cell? ⟨ad134.block, ad134.off + 1, none⟩ = some (.int .i64 (rd l0_2 1)) ∧ w'.cell? ad134 = some (.int .i64 (rd l0_2 0))) (ds := []) (fun hHeld => ?_); refine with_tabW sched_at.tab8 sched_at.bits8 (fun HT_ HW_ => ?_)
  generalize w32.drew = w34 at BK121 HB hx134_0 hx135_0 hHeld ⊢
  refine pu (i := 0) (N := some 65) ?_
  refine pu (i := 1) (N := some 66) ?_
  refine pu (i := 7) (N := some 72) ?_
  refine tk (i := 2) (N := some 67) ?_
  refine pu (i := 3) (N := some 68) ?_
  refine tk (i := 4) (N := some 69) ?_
  refine pu (i := 5) (N := some 70) ?_
  refine pu (i := 6) (N := some 71) ?_
  refine tk (i := 8) (N := some 73) ?_
  refine pu (i := 9) (N := some 74) ?_
  refine tk (i := 10) (N := some 75) ?_
  refine pu (i := 11) (N := some 76) ?_
  refine pu (i := 12) (N := some 9) ?_
  refine done_ (done_of HT_.out (by kernel_rfl)) ?_
  try go_wp2
  replace BK121 := Aside0.mk (blk_drew BK121.out)
  replace HB := Aside0.mk (below_drew1 HB.out)
  have p136 : 0 ≤ (0 : Int) := (by omega)
  have q136 : 0 < (l0_1.length : Int) := of_decide_eq_true as_
  obtain ⟨ad136, e136, hx136_0⟩ := Kd.at_int HR0_1.out 0 p136 q136
  have hw136_0 := hx136_0
  rw [show ((0 : Int)).toNat = 0 from rfl] at hw136_0
  rw [Addr.add_zero'] at hw136_0
  cases e136
  have qi136 : (0 < l0_1.length) = True := eq_true (by omega)
  rw [show ((0 : Int)).toNat = 0 from rfl] at hx136_0
  rw [Addr.add_zero'] at hx136_0
  replace hx136_0 := upc hx136_0
  replace p136 := eq_true p136
  replace q136 := eq_true q136
  have p137 : 0 ≤ (1 : Int) := (by omega)
  have q137 : 1 < (l0_1.length : Int) := of_decide_eq_true as_
  obtain ⟨ad137, e137, hx137_0⟩ := Kd.at_int HR0_1.out 1 p137 q137
  have hw137_0 := hx137_0
  rw [show ((1 : Int)).toNat = 1 from rfl] at hw137_0
  simp only [Nat.reduceMul, Nat.reduceEqDiff, Go.Addr.add, ↓reduceIte] at hw137_0
  obtain rfl : ad136 = ad137 := (by injection e137)
  simp only [show (1 : Int).toNat = 1 from rfl, Nat.reduceMul, Nat.reduceEqDiff, Go.Addr.add, ↓reduceIte] at hx137_0
  have qi137 : (1 < l0_1.length) = True := eq_true (by omega)
  replace hx137_0 := upc hx137_0
  replace p137 := eq_true p137
  replace q137 := eq_true q137
  refine st (S := fun w' => w'.cell? ⟨gb121, 0, none⟩ = some (.int .i64 a0_0) ∧ w'.cell? ⟨gb121, 1, none⟩ = some (.slice (some ad136) l0_1.length c0_1) ∧ w'.cell? ⟨gb121, 2, none⟩ = some (.slice (some ad134) l0_2.length c0_2) ∧ w'.cell? ⟨gb121, 3, none⟩ = some (.slice A0_3 l0_3.length c0_3) ∧ w'.cell? ad136 = some (.int .u32 (rd l0_1 0)) ∧ w'.cell? ⟨ad136.block, ad136.off + 1, none⟩ = some (.int .u32 (rd l0_1 1))) (ds := []) (fun hHeld => ?_); refine with_tabW sched_at.tab9 sched_at.bits9 (fun HT_ HW_ => ?_)
  generalize w34.drew = w35 at BK121 HB hx136_0 hx137_0 hHeld ⊢
  refine pu (i := 0) (N := some 77) ?_
  refine pu (i := 4) (N := some 81) ?_
  refine pu (i := 8) (N := some 85) ?_
  refine tk (i := 1) (N := some 78) ?_
  refine pu (i := 2) (N := some 79) ?_
  refine tk (i := 3) (N := some 80) ?_
  refine tk (i := 5) (N := some 82) ?_
  refine pu (i := 6) (N := some 83) ?_
  refine tk (i := 7) (N := some 84) ?_
  refine on (i := 9) (N := some 86) (fun K hK => ?_)
  refine goes_ Tryd.func55 (by kernel_rfl) rfl #[.int .u32 (rd l0_1 1), .int .i64 (wrap64 ((ji25) / (rd l0_2 0)))] (by rfl) rfl rfl (by (try simp only [List.map_toArray, List.map_cons, List.map_nil]); first | done | (simp only [hji25]; rfl) | rfl | (simp only [hji25_]; rfl) | (simp only [i64_w, hji25_]; rfl) | (simp only [i64_w, hji25_, Int.tdiv_eq_ediv_of_nonneg hji25l]; rfl) | (simp only [Int.tdiv_eq_ediv_of_nonneg hji25l]; rfl)) ?_
  with_reducible refine (float_Power.calls (rd l0_1 1) (wrap64 ((ji25) / (rd l0_2 0))) t138 _ A30.out).mono ?_
  rintro e w' ⟨rfl, ⟨nd, rfl⟩⟩
  refine ⟨_, rfl, ?_⟩
  refine nx hK.out (fun hHeld => ?_)
  refine on (i := 10) (N := some 87) (fun K hK => ?_)
  refine gA Tryd.func40 #[.int .u32 (rd l0_1 0), .int .u32 t138] ?_
  with_reducible refine (float_Mul.calls (rd l0_1 0) t138 t139 _ A31.out).mono ?_
  rintro e w' ⟨rfl, ⟨nd, rfl⟩⟩
  refine ⟨_, rfl, ?_⟩
  refine nx hK.out (fun hHeld => ?_)
  refine pu (i := 11) (N := some 4) ?_
  refine done_ (done_of HT_.out (by kernel_rfl)) ?_
  try go_wp2
  go_ret
  exact ⟨by first | rfl | (simp [errW_none, errW_some] <;> rfl) | (simp only [← hji25]; first | rfl | (simp [errW_none, errW_some] <;> rfl)) | (simp [*, errW_none, errW_some] <;> rfl), by repeat (first | (with_reducible first | exact HB.out | apply below_alloc | apply pw_below_drewN | apply below_drew1 | refine below_set ?_ GE121.out) | exact HB.out)⟩
 rw [if_neg c23] at H
 have c23b0 : (a0_0 == 3) = false := beq_eq_false_iff_ne.mpr c23
 have c23b1 : (a0_0 != 3) = true := bne_iff_ne.mpr c23
 by_cases c36 : a0_0 = 4
 ·rw [if_pos c36] at H
  have c36b0 : (a0_0 == 4) = true := beq_iff_eq.mpr c36
  have c36b1 : (a0_0 != 4) = false := bne_eq_false_iff_eq.mpr c36
  clear c36
  by_cases c37 : 0 < (l0_1.length : Int)
  rotate_left
  ·rw [if_neg c37] at H
   exact absurd H (by simp)
  rw [if_pos c37] at H
  have c37b0 := decide_eq_true c37
  have c37b1 : decide (0 < l0_1.length) = true := decide_eq_true (by omega)
  clear c37
  by_cases c38 : 1 < (l0_1.length : Int)
  rotate_left
  ·rw [if_neg c38] at H
   exact absurd H (by simp)
  rw [if_pos c38] at H
  have c38b0 := decide_eq_true c38
  have c38b1 : decide (1 < l0_1.length) = true := decide_eq_true (by omega)
  clear c38
  by_cases c39 : 0 < (l0_2.length : Int)
  rotate_left
  ·rw [if_neg c39] at H
   exact absurd H (by simp)
  rw [if_pos c39] at H
  have c39b0 := decide_eq_true c39
  have c39b1 : decide (0 < l0_2.length) = true := decide_eq_true (by omega)
  clear c39
  obtain ⟨ji40, hji40⟩ : ∃ j_ : Int, (mn a1 (rd l0_2 0)) = j_ := ⟨_, rfl⟩
  first | rw [hji40] at H | simp only [hji40] at H
  have hji40_ : (if (rd l0_2 0) < a1 then (rd l0_2 0) else a1) = ji40 := hji40
  replace H := Option.bind_eq_some_iff.mp H
  obtain ⟨t144, A410, H⟩ := H
  have A41 := Aside0.mk A410
  clear A410
  replace H := Option.bind_eq_some_iff.mp H
  obtain ⟨t145, A420, H⟩ := H
  have A42 := Aside0.mk A420
  clear A420
  replace H := Option.bind_eq_some_iff.mp H
  obtain ⟨t146, A430, H⟩ := H
  have A43 := Aside0.mk A430
  clear A430
  replace H := Option.bind_eq_some_iff.mp H
  obtain ⟨t147, A440, H⟩ := H
  have A44 := Aside0.mk A440
  clear A440
  replace H := Option.bind_eq_some_iff.mp H
  obtain ⟨t148, A450, H⟩ := H
  have A45 := Aside0.mk A450
  clear A450
  replace H := Option.bind_eq_some_iff.mp H
  obtain ⟨t149, A460, H⟩ := H
  have A46 := Aside0.mk A460
  clear A460
  replace H := Option.bind_eq_some_iff.mp H
  obtain ⟨t150, A470, H⟩ := H
  have A47 := Aside0.mk A470
  clear A470
  replace H := Option.bind_eq_some_iff.mp H
  obtain ⟨t151, A480, H⟩ := H
  have A48 := Aside0.mk A480
  clear A480
  obtain rfl := Option.some.inj H
  go_enter Tryd.func30, Tryd.ntmps30
  try go_wp2_with (first | ((with_reducible refine gate_dst (N := 2) rfl ?_); refine box_event ?hg (N := 2) ?hd (cs := #[.int .i64 a0_0, .slice A0_1 l0_1.length c0_1, .slice A0_2 l0_2.length c0_2, .slice A0_3 l0_3.length c0_3]) (t := 26) ?hr ?_; (case hd => rfl); (case hg => rfl); (case hr => first | (go_simp; done) | (go_simp; rfl)); intro gb121 hg w49 hbox hb; have BK121 := Aside0.mk (hbox); have GW121 := bsz (w := w) hg; have GE121 := bsz (w := w) hg; replace HB := bst hb; clear hb hbox hg; obtain ⟨_, _, _, _, _, _, _, _⟩ := bx4 BK121.out))
  replace BK121 := Aside0.mk (blk_drew BK121.out)
  replace HB := Aside0.mk (below_drew1 HB.out)
  have p140 : 0 ≤ (0 : Int) := (by omega)
  have q140 : 0 < (l0_1.length : Int) := of_decide_eq_true as_
  obtain ⟨ad140, e140, hx140_0⟩ := Kd.at_int HR0_1.out 0 p140 q140
  have hw140_0 := hx140_0
  rw [show ((0 : Int)).toNat = 0 from rfl] at hw140_0
  rw [Addr.add_zero'] at hw140_0
  cases e140
  have qi140 : (0 < l0_1.length) = True := eq_true (by omega)
  rw [show ((0 : Int)).toNat = 0 from rfl] at hx140_0
  rw [Addr.add_zero'] at hx140_0
  replace hx140_0 := upc hx140_0
  replace p140 := eq_true p140
  replace q140 := eq_true q140
  have p141 : 0 ≤ (1 : Int) := (by omega)
  have q141 : 1 < (l0_1.length : Int) := of_decide_eq_true as_
  obtain ⟨ad141, e141, hx141_0⟩ := Kd.at_int HR0_1.out 1 p141 q141
  have hw141_0 := hx141_0
  rw [show ((1 : Int)).toNat = 1 from rfl] at hw141_0
  simp only [Nat.reduceMul, Nat.reduceEqDiff, Go.Addr.add, ↓reduceIte] at hw141_0
  obtain rfl : ad140 = ad141 := (by injection e141)
  simp only [show (1 : Int).toNat = 1 from rfl, Nat.reduceMul, Nat.reduceEqDiff, Go.Addr.add, ↓reduceIte] at hx141_0
  have qi141 : (1 < l0_1.length) = True := eq_true (by omega)
  replace hx141_0 := upc hx141_0
  replace p141 := eq_true p141
  replace q141 := eq_true q141
  refine st (S := fun w' => w'.cell? ⟨gb121, 0, none⟩ = some (.int .i64 a0_0) ∧ w'.cell? ⟨gb121, 1, none⟩ = some (.slice (some ad140) l0_1.length c0_1) ∧ w'.cell? ⟨gb121, 2, none⟩ = some (.slice A0_2 l0_2.length c0_2) ∧ w'.cell? ⟨gb121, 3, none⟩ = some (.slice A0_3 l0_3.length c0_3) ∧ w'.cell? ad140 = some (.int .u32 (rd l0_1 0)) ∧ w'.cell? ⟨ad140.block, ad140.off + 1, none⟩ = some (.int .u32 (rd l0_1 1))) (ds := []) (fun hHeld => ?_); refine with_tabW sched_at.tab11 sched_at.bits11 (fun HT_ HW_ => ?_)
  generalize w49.drew = w51 at BK121 HB hx140_0 hx141_0 hHeld ⊢
  refine pu (i := 0) (N := some 90) ?_
  refine pu (i := 4) (N := some 94) ?_
  refine tk (i := 1) (N := some 91) ?_
  refine pu (i := 2) (N := some 92) ?_
  refine tk (i := 3) (N := some 93) ?_
  refine pu (i := 8) (N := some 10) ?_
  refine tk (i := 5) (N := some 95) ?_
  refine pu (i := 6) (N := some 96) ?_
  refine tk (i := 7) (N := some 97) ?_
  refine pu (i := 9) (N := some 11) ?_
  refine done_ (done_of HT_.out (by kernel_rfl)) ?_
  try go_wp2
  replace BK121 := Aside0.mk (blk_drew BK121.out)
  replace HB := Aside0.mk (below_drew1 HB.out)
  have p142 : 0 ≤ (0 : Int) := (by omega)
  have q142 : 0 < (l0_2.length : Int) := of_decide_eq_true as_
  obtain ⟨ad142, e142, hx142_0⟩ := Kd.at_int HR0_2.out 0 p142 q142
  have hw142_0 := hx142_0
  rw [show ((0 : Int)).toNat = 0 from rfl] at hw142_0
  rw [Addr.add_zero'] at hw142_0
  cases e142
  have qi142 : (0 < l0_2.length) = True := eq_true (by omega)
  rw [show ((0 : Int)).toNat = 0 from rfl] at hx142_0
  rw [Addr.add_zero'] at hx142_0
  replace hx142_0 := upc hx142_0
  replace p142 := eq_true p142
  replace q142 := eq_true q142
  have p143 : 0 ≤ (0 : Int) := (by omega)
  have q143 : 0 < (l0_2.length : Int) := of_decide_eq_true as_
  obtain ⟨ad143, e143, hx143_0⟩ := Kd.at_int HR0_2.out 0 p143 q143
  have hw143_0 := hx143_0
  rw [show ((0 : Int)).toNat = 0 from rfl] at hw143_0
  rw [Addr.add_zero'] at hw143_0
  obtain rfl : ad142 = ad143 := (by injection e143)
  have qi143 : (0 < l0_2.length) = True := eq_true (by omega)
  rw [show ((0 : Int)).toNat = 0 from rfl] at hx143_0
  rw [Addr.add_zero'] at hx143_0
  replace hx143_0 := upc hx143_0
  replace p143 := eq_true p143
  replace q143 := eq_true q143
  refine st (S := fun w' => w'.cell? ⟨gb121, 0, none⟩ = some (.int .i64 a0_0) ∧ w'.cell? ⟨gb121, 1, none⟩ = some (.slice (some ad140) l0_1.length c0_1) ∧ w'.cell? ⟨gb121, 2, none⟩ = some (.slice (some ad142) l0_2.length c0_2) ∧ w'.cell? ⟨gb121, 3, none⟩ = some (.slice A0_3 l0_3.length c0_3) ∧ w'.cell? ad142 = some (.int .i64 (rd l0_2 0)) ∧ w'.cell? ad142 = some (.int .i64 (rd l0_2 0))) (ds := []) (fun hHeld => ?_); refine with_tabW sched_at.tab12 sched_at.bits12 (fun HT_ HW_ => ?_)
  generalize w51.drew = w52 at BK121 HB hx142_0 hx143_0 hHeld ⊢
  refine pu (i := 0) (N := some 98) ?_
  refine pu (i := 1) (N := some 99) ?_
  refine pu (i := 6) (N := some 104) ?_
  refine tk (i := 2) (N := some 100) ?_
  refine pu (i := 3) (N := some 101) ?_
  refine tk (i := 4) (N := some 102) ?_
  refine pu (i := 5) (N := some 103) ?_
  refine tk (i := 7) (N := some 105) ?_
  refine pu (i := 8) (N := some 106) ?_
  refine tk (i := 9) (N := some 107) ?_
  refine on (i := 10) (N := some 108) (fun K hK => ?_)
  refine goes_ Tryd.func54 (by kernel_rfl) rfl #[.int .i64 ji40, .int .i64 (rd l0_2 0)] (by rfl) rfl rfl (by (try simp only [List.map_toArray, List.map_cons, List.map_nil]); first | done | (simp only [hji40]; rfl) | rfl | (simp only [List.length_drop, List.length_take]; rfl)) ?_
  with_reducible refine (sched_part.calls ji40 (rd l0_2 0) t144 _ A41.out).mono ?_
  rintro e w' ⟨rfl, ⟨nd, rfl⟩⟩
  refine ⟨_, rfl, ?_⟩
  refine nx hK.out (fun hHeld => ?_)
  refine on (i := 11) (N := some 109) (fun K hK => ?_)
  refine gA Tryd.func18 #[.int .u32 t144] ?_
  with_reducible refine (sched_Wave.calls t144 t145 _ (Wav.Lies.keep hl_ hbb) A42.out).mono ?_
  rintro e w' ⟨rfl, ⟨nd, rfl⟩⟩
  refine ⟨_, rfl, ?_⟩
  refine nx hK.out (fun hHeld => ?_)
  refine on (i := 12) (N := some 110) (fun K hK => ?_)
  refine gA Tryd.func41 #[.int .u32 1065353216, .int .u32 t145] ?_
  with_reducible refine (float_Add.calls 1065353216 t145 t146 _ A43.out).mono ?_
  rintro e w' ⟨rfl, ⟨nd, rfl⟩⟩
  refine ⟨_, rfl, ?_⟩
  refine nx hK.out (fun hHeld => ?_)
  refine on (i := 13) (N := some 111) (fun K hK => ?_)
  refine gA Tryd.func40 #[.int .u32 1056964608, .int .u32 t146] ?_
  with_reducible refine (float_Mul.calls 1056964608 t146 t147 _ A44.out).mono ?_
  rintro e w' ⟨rfl, ⟨nd, rfl⟩⟩
  refine ⟨_, rfl, ?_⟩
  refine nx hK.out (fun hHeld => ?_)
  refine pu (i := 14) (N := some 12) ?_
  refine done_ (done_of HT_.out (by kernel_rfl)) ?_
  try go_wp2_with (first | ((with_reducible refine gate_callee (f := 39) rfl ?_); refine gL (some 113) Tryd.func39 #[.int .u32 1065353216, .int .u32 (rd l0_1 1)] ?_; (with_reducible refine (float_Sub.calls 1065353216 (rd l0_1 1) t148 _ A45.out).mono ?_); clear A45; rintro e w' ⟨rfl, ⟨nd, rfl⟩⟩; refine ⟨_, rfl, ?_⟩) | ((with_reducible refine gate_callee (f := 40) rfl ?_); refine gL (some 115) Tryd.func40 #[.int .u32 t148, .int .u32 t147] ?_; (with_reducible refine (float_Mul.calls t148 t147 t149 _ A46.out).mono ?_); clear A46; rintro e w' ⟨rfl, ⟨nd, rfl⟩⟩; refine ⟨_, rfl, ?_⟩) | ((with_reducible refine gate_callee (f := 41) rfl ?_); refine gL (some 117) Tryd.func41 #[.int .u32 t149, .int .u32 (rd l0_1 1)] ?_; (with_reducible refine (float_Add.calls t149 (rd l0_1 1) t150 _ A47.out).mono ?_); clear A47; rintro e w' ⟨rfl, ⟨nd, rfl⟩⟩; refine ⟨_, rfl, ?_⟩) | ((with_reducible refine gate_callee (f := 40) rfl ?_); refine gL (some 119) Tryd.func40 #[.int .u32 t150, .int .u32 (rd l0_1 0)] ?_; (with_reducible refine (float_Mul.calls t150 (rd l0_1 0) t151 _ A48.out).mono ?_); clear A48; rintro e w' ⟨rfl, ⟨nd, rfl⟩⟩; refine ⟨_, rfl, ?_⟩))
  go_ret
  exact ⟨by first | rfl | (simp [errW_none, errW_some] <;> rfl) | (simp only [← hji40]; first | rfl | (simp [errW_none, errW_some] <;> rfl)) | (simp [*, errW_none, errW_some] <;> rfl), by repeat (first | (with_reducible first | exact HB.out | apply below_alloc | apply pw_below_drewN | apply below_drew1 | refine below_set ?_ GE121.out) | exact HB.out)⟩
 rw [if_neg c36] at H
 have c36b0 : (a0_0 == 4) = false := beq_eq_false_iff_ne.mpr c36
 have c36b1 : (a0_0 != 4) = true := bne_iff_ne.mpr c36
 by_cases c53 : a0_0 = 5
 ·rw [if_pos c53] at H
  have c53b0 : (a0_0 == 5) = true := beq_iff_eq.mpr c53
  have c53b1 : (a0_0 != 5) = false := bne_eq_false_iff_eq.mpr c53
  clear c53
  by_cases c54 : 0 < (l0_1.length : Int)
  rotate_left
  ·rw [if_neg c54] at H
   exact absurd H (by simp)
  rw [if_pos c54] at H
  have c54b0 := decide_eq_true c54
  have c54b1 : decide (0 < l0_1.length) = true := decide_eq_true (by omega)
  clear c54
  have H' := Aside0.mk H
  clear H
  go_enter Tryd.func30, Tryd.ntmps30
  go_wp2_with (first | ((with_reducible refine gate_dst (N := 2) rfl ?_); refine box_event ?hg (N := 2) ?hd (cs := #[.int .i64 a0_0, .slice A0_1 l0_1.length c0_1, .slice A0_2 l0_2.length c0_2, .slice A0_3 l0_3.length c0_3]) (t := 26) ?hr ?_; (case hd => rfl); (case hg => rfl); (case hr => first | (go_simp; done) | (go_simp; rfl)); intro gb121 hg w55 hbox hb; have BK121 := Aside0.mk (hbox); have GW121 := bsz (w := w) hg; have GE121 := bsz (w := w) hg; replace HB := bst hb; clear hb hbox hg; obtain ⟨_, _, _, _, _, _, _, _⟩ := bx4 BK121.out; have p152 : 0 ≤ (0 : Int) := (by omega); have q152 : 0 < (l0_1.length : Int) := of_decide_eq_true as_; obtain ⟨ad152, e152, hx152_0⟩ := Kd.at_int HR0_1.out 0 p152 q152; cases e152; have qi152 : (0 < l0_1.length) = True := eq_true (by omega); (try rw [show ((0 : Int)).toNat = 0 from rfl] at hx152_0); (try rw [Addr.add_zero'] at hx152_0); replace hx152_0 := upc hx152_0; replace p152 := eq_true p152; replace q152 := eq_true q152))
  go_loopg [13, 129] k (fun kq v13 v129 w' => ∃ (x13_1 : Int) (x129_1 : Int), v13 = .int .u32 x13_1 ∧ v129 = .int .i64 x129_1 ∧ Aside0 (sched_at.l0 kq a1 x13_1 l0_2 (l0_2.length : Int) x129_1 a0_0 l0_1 l0_2 l0_3 = some r) ∧ Aside0 (kq ≤ k) ∧ Aside0 (w'.heap[gb121]? = some (.cells #[.int .i64 a0_0, (.slice (some ad152) l0_1.length c0_1), (.slice A0_2 l0_2.length c0_2), (.slice A0_3 l0_3.length c0_3)] 26 (0, 0))) ∧ Aside0 (Below w.heap.size w w'))
  case atStart => exact ⟨(rd l0_1 0), (0), id_, id_, H', ⟨Nat.le_refl _⟩, ⟨bkk⟩, ⟨hbb⟩⟩
  case round =>
   clear H'
   clear c3 c23 c23b0 c23b1 c36 c36b0 c36b1 c53b0 c53b1 c54b0 c54b1 hx152_0 p152 q152
   obtain ⟨x13_1, x129_1, rfl, rfl, HA, HK1, BK121, HB⟩ := hrel
   cases gk with
   | zero => exact absurd HA.out (by simp [sched_at.l0])
   | succ k1 =>
    have H := HA.out
    clear HA
    simp only [sched_at.l0] at H
    by_cases c57 : x129_1 < (l0_2.length : Int)
    rotate_left
    ·rw [if_neg c57] at H
     have c57b0 := decide_eq_false c57
     clear c57
     obtain rfl := Option.some.inj H
     go_wp2
     go_ret
     exact fin_
    rw [if_pos c57] at H
    have c57b0 := decide_eq_true c57
    clear c57
    by_cases c58 : 0 ≤ x129_1
    rotate_left
    ·rw [if_neg c58] at H
     exact absurd H (by simp)
    rw [if_pos c58] at H
    have c58b0 := decide_eq_true c58
    clear c58
    by_cases c59 : x129_1 < (l0_2.length : Int)
    rotate_left
    ·rw [if_neg c59] at H
     exact absurd H (by simp)
    rw [if_pos c59] at H
    have c59b0 := decide_eq_true c59
    clear c59
    by_cases c60 : (rd l0_2 x129_1) ≤ a1
    rotate_left
    ·rw [if_neg c60] at H
     have c60b0 := decide_eq_false c60
     clear c60
     have H' := Aside0.mk H
     clear H
     have p153 : 0 ≤ (x129_1 : Int) := of_decide_eq_true as_
     have q153 : x129_1 < (l0_2.length : Int) := of_decide_eq_true as_
     obtain ⟨ad153, e153, hx153_0⟩ := Kd.at_int HR0_2.out x129_1 p153 q153
     cases e153
     replace hx153_0 := upc hx153_0
     replace p153 := eq_true p153
     replace q153 := eq_true q153
     go_wp2
     go_roundg k1
     case measure => have := HK1.out; omega
     case rel => exact ⟨(x13_1), (wrap64 (x129_1 + 1)), id_, id_, H', ⟨by have := HK1.out; omega⟩, ⟨bkk⟩, ⟨hbb⟩⟩
    rw [if_pos c60] at H
    have c60b0 := decide_eq_true c60
    clear c60
    obtain ⟨ji61, hji61⟩ : ∃ j_ : Int, (wrap64 (x129_1 + 1)) = j_ := ⟨_, rfl⟩
    first | rw [hji61] at H | simp only [hji61] at H
    have hji61w : (IntKind.i64.wrap (x129_1 + 1)) = ji61 := (i64_w _).trans hji61
    by_cases c62 : 0 ≤ (ji61)
    rotate_left
    ·rw [if_neg c62] at H
     exact absurd H (by simp)
    rw [if_pos c62] at H
    have c62b0 := decide_eq_true c62
    clear c62
    by_cases c63 : (ji61) < (l0_1.length : Int)
    rotate_left
    ·rw [if_neg c63] at H
     exact absurd H (by simp)
    rw [if_pos c63] at H
    have c63b0 := decide_eq_true c63
    clear c63
    replace H := Option.bind_eq_some_iff.mp H
    obtain ⟨t155, A640, H⟩ := H
    have A64 := Aside0.mk A640
    clear A640
    have H' := Aside0.mk H
    clear H
    have p153 : 0 ≤ (x129_1 : Int) := of_decide_eq_true as_
    have q153 : x129_1 < (l0_2.length : Int) := of_decide_eq_true as_
    obtain ⟨ad153, e153, hx153_0⟩ := Kd.at_int HR0_2.out x129_1 p153 q153
    cases e153
    replace hx153_0 := upc hx153_0
    replace p153 := eq_true p153
    replace q153 := eq_true q153
    obtain ⟨_, _, _, _, _, _, _, _⟩ := bx4 BK121.out
    have p154 : 0 ≤ ((ji61) : Int) := of_decide_eq_true as_
    have q154 : (ji61) < (l0_1.length : Int) := of_decide_eq_true as_
    obtain ⟨ad154, e154, hx154_0⟩ := Kd.at_int HR0_1.out (ji61) p154 q154
    obtain rfl : ad152 = ad154 := (by injection e154)
    replace hx154_0 := upc hx154_0
    replace p154 := eq_true p154
    replace q154 := eq_true q154
    go_wp2_with (first | ((with_reducible refine gate_callee (f := 40) rfl ?_); refine goesL_ (some 144) rfl rfl Tryd.func40 (by kernel_rfl) rfl #[.int .u32 x13_1, .int .u32 (rd l0_1 (ji61))] rfl (by (try simp only [List.map_toArray, List.map_cons, List.map_nil]); first | done | (simp only [hji61]; rfl) | rfl | (simp only [List.length_drop, List.length_take]; rfl)) ?_; (with_reducible refine (float_Mul.calls x13_1 (rd l0_1 (ji61)) t155 _ A64.out).mono ?_); clear A64; rintro e w' ⟨rfl, ⟨nd, rfl⟩⟩; refine ⟨_, rfl, ?_⟩))
    go_roundg k1
    case measure => have := HK1.out; omega
    case rel => exact ⟨(t155), (ji61), id_, (by first | rfl | (simp; done) | (simp only [← hji61] <;> (first | rfl | simp)) | (simp [*]; done)), (by first | exact H' | (rw [hji61]; exact H')), ⟨by have := HK1.out; omega⟩, ⟨bkk⟩, ⟨hbb⟩⟩
 rw [if_neg c53] at H
 have c53b0 : (a0_0 == 5) = false := beq_eq_false_iff_ne.mpr c53
 have c53b1 : (a0_0 != 5) = true := bne_iff_ne.mpr c53
 by_cases c66 : a0_0 = 6
 ·rw [if_pos c66] at H
  have c66b0 : (a0_0 == 6) = true := beq_iff_eq.mpr c66
  have c66b1 : (a0_0 != 6) = false := bne_eq_false_iff_eq.mpr c66
  clear c66
  have H' := Aside0.mk H
  clear H
  go_enter Tryd.func30, Tryd.ntmps30
  go_wp2_with (first | ((with_reducible refine gate_dst (N := 2) rfl ?_); refine box_event ?hg (N := 2) ?hd (cs := #[.int .i64 a0_0, .slice A0_1 l0_1.length c0_1, .slice A0_2 l0_2.length c0_2, .slice A0_3 l0_3.length c0_3]) (t := 26) ?hr ?_; (case hd => rfl); (case hg => rfl); (case hr => first | (go_simp; done) | (go_simp; rfl)); intro gb121 hg w67 hbox hb; have BK121 := Aside0.mk (hbox); have GW121 := bsz (w := w) hg; have GE121 := bsz (w := w) hg; replace HB := bst hb; clear hb hbox hg; obtain ⟨_, _, _, _, _, _, _, _⟩ := bx4 BK121.out))
  go_loopg [16, 17, 152] k (fun kq v16 v17 v152 w' => ∃ (x16_1 : Int) (x17_1 : Int) (x152_1 : Int), v16 = .int .i64 x16_1 ∧ v17 = .int .i64 x17_1 ∧ v152 = .int .i64 x152_1 ∧ Aside0 (sched_at.l1 kq a1 x16_1 x17_1 l0_2 (l0_2.length : Int) x152_1 a0_0 l0_1 l0_2 l0_3 = some r) ∧ Aside0 (kq ≤ k) ∧ Aside0 (w'.heap[gb121]? = some (.cells #[.int .i64 a0_0, (.slice A0_1 l0_1.length c0_1), (.slice A0_2 l0_2.length c0_2), (.slice A0_3 l0_3.length c0_3)] 26 (0, 0))) ∧ Aside0 (Below w.heap.size w w'))
  case atStart => exact ⟨(0), (0), (0), id_, id_, id_, H', ⟨Nat.le_refl _⟩, ⟨bkk⟩, ⟨hbb⟩⟩
  case round =>
   clear H'
   clear c3 c23 c23b0 c23b1 c36 c36b0 c36b1 c53 c53b0 c53b1 c66b0 c66b1
   obtain ⟨x16_1, x17_1, x152_1, rfl, rfl, rfl, HA, HK1, BK121, HB⟩ := hrel
   cases gk with
   | zero => exact absurd HA.out (by simp [sched_at.l1])
   | succ k1 =>
    have H := HA.out
    clear HA
    simp only [sched_at.l1] at H
    by_cases c69 : x152_1 < (l0_2.length : Int)
    rotate_left
    ·rw [if_neg c69] at H
     have c69b0 := decide_eq_false c69
     clear c69
     by_cases c73 : 0 ≤ x16_1
     rotate_left
     ·rw [if_neg c73] at H
      exact absurd H (by simp)
     rw [if_pos c73] at H
     have c73b0 := decide_eq_true c73
     clear c73
     by_cases c74 : x16_1 < (l0_3.length : Int)
     rotate_left
     ·rw [if_neg c74] at H
      exact absurd H (by simp)
     rw [if_pos c74] at H
     have c74b0 := decide_eq_true c74
     clear c74
     replace H := Option.bind_eq_some_iff.mp H
     obtain ⟨t158, A750, H⟩ := H
     have A75 := Aside0.mk A750
     clear A750
     obtain rfl := Option.some.inj H
     obtain ⟨_, _, _, _, _, _, _, _⟩ := bx4 BK121.out
     have p157 : 0 ≤ (x16_1 : Int) := of_decide_eq_true as_
     have q157 : x16_1 < (l0_3.length : Int) := of_decide_eq_true as_
     obtain ⟨ad157, A157_1, c157_1, A157_2, c157_2, A157_3, c157_3, e157, hx157_0, hx157_1, hx157_2, hx157_3, hl157_1, hi157_1, hl157_2, hi157_2, hl157_3, hi157_3⟩ := at_T26 HR0_3.out x16_1 p157 q157
     cases e157
     replace hx157_0 := upc hx157_0
     replace hx157_1 := upc hx157_1
     replace hx157_2 := upc hx157_2
     replace hx157_3 := upc hx157_3
     have HR157_1 := Aside0.mk hi157_1
     have HC157_1 := Aside0.mk hl157_1
     clear hi157_1 hl157_1
     have HR157_2 := Aside0.mk hi157_2
     have HC157_2 := Aside0.mk hl157_2
     clear hi157_2 hl157_2
     have HR157_3 := Aside0.mk hi157_3
     have HC157_3 := Aside0.mk hl157_3
     clear hi157_3 hl157_3
     replace p157 := eq_true p157
     replace q157 := eq_true q157
     go_wp2_with (first | ((with_reducible refine gate_callee (f := 30) rfl ?_); refine gL (some 172) Tryd.func30 #[.agg #[.int .i64 ((rd_T26 l0_3 x16_1).f0), .slice A157_1 ((rd_T26 l0_3 x16_1).f1).length c157_1, .slice A157_2 ((rd_T26 l0_3 x16_1).f2).length c157_2, .slice A157_3 ((rd_T26 l0_3 x16_1).f3).length c157_3], .int .i64 (wrap64 (a1 - x17_1))] ?_; (with_reducible refine (ih k1 (by have := HK1.out; omega) ((rd_T26 l0_3 x16_1).f0) _ _ ((rd_T26 l0_3 x16_1).f1) _ _ ((rd_T26 l0_3 x16_1).f2) _ _ ((rd_T26 l0_3 x16_1).f3) (wrap64 (a1 - x17_1)) t158 _ (Wav.Lies.keep hl_ hbb) ?side1 ?side2 ?side3 ?side4 ?side5 ?side6 A75.out).mono ?_); (case side1 => exact cb HR157_1); (case side2 => exact HC157_1.out); (case side3 => exact cb HR157_2); (case side4 => exact HC157_2.out); (case side5 => exact cb HR157_3); (case side6 => exact HC157_3.out); rintro e w77 ⟨rfl, hb⟩; refine ⟨_, rfl, ?_⟩; replace BK121 := bks BK121 hb; replace HB := bst hb; (try clear hb)))
     go_ret
     exact fin_
    rw [if_pos c69] at H
    have c69b0 := decide_eq_true c69
    clear c69
    by_cases c70 : 0 ≤ x152_1
    rotate_left
    ·rw [if_neg c70] at H
     exact absurd H (by simp)
    rw [if_pos c70] at H
    have c70b0 := decide_eq_true c70
    clear c70
    by_cases c71 : x152_1 < (l0_2.length : Int)
    rotate_left
    ·rw [if_neg c71] at H
     exact absurd H (by simp)
    rw [if_pos c71] at H
    have c71b0 := decide_eq_true c71
    clear c71
    by_cases c72 : (rd l0_2 x152_1) ≤ a1
    ·rw [if_pos c72] at H
     have c72b0 := decide_eq_true c72
     clear c72
     have H' := Aside0.mk H
     clear H
     have p156 : 0 ≤ (x152_1 : Int) := of_decide_eq_true as_
     have q156 : x152_1 < (l0_2.length : Int) := of_decide_eq_true as_
     obtain ⟨ad156, e156, hx156_0⟩ := Kd.at_int HR0_2.out x152_1 p156 q156
     cases e156
     replace hx156_0 := upc hx156_0
     replace p156 := eq_true p156
     replace q156 := eq_true q156
     go_wp2
     go_roundg k1
     case measure => have := HK1.out; omega
     case rel => exact ⟨(wrap64 (x152_1 + 1)), (rd l0_2 x152_1), (wrap64 (x152_1 + 1)), id_, id_, id_, H', ⟨by have := HK1.out; omega⟩, ⟨bkk⟩, ⟨hbb⟩⟩
    rw [if_neg c72] at H
    have c72b0 := decide_eq_false c72
    clear c72
    have H' := Aside0.mk H
    clear H
    have p156 : 0 ≤ (x152_1 : Int) := of_decide_eq_true as_
    have q156 : x152_1 < (l0_2.length : Int) := of_decide_eq_true as_
    obtain ⟨ad156, e156, hx156_0⟩ := Kd.at_int HR0_2.out x152_1 p156 q156
    cases e156
    replace hx156_0 := upc hx156_0
    replace p156 := eq_true p156
    replace q156 := eq_true q156
    go_wp2
    go_roundg k1
    case measure => have := HK1.out; omega
    case rel => exact ⟨(x16_1), (x17_1), (wrap64 (x152_1 + 1)), id_, id_, id_, H', ⟨by have := HK1.out; omega⟩, ⟨bkk⟩, ⟨hbb⟩⟩
 rw [if_neg c66] at H
 have c66b0 : (a0_0 == 6) = false := beq_eq_false_iff_ne.mpr c66
 have c66b1 : (a0_0 != 6) = true := bne_iff_ne.mpr c66
 by_cases c78 : a0_0 = 8
 ·rw [if_pos c78] at H
  have c78b0 : (a0_0 == 8) = true := beq_iff_eq.mpr c78
  have c78b1 : (a0_0 != 8) = false := bne_eq_false_iff_eq.mpr c78
  clear c78
  by_cases c79 : 0 < (l0_3.length : Int)
  rotate_left
  ·rw [if_neg c79] at H
   exact absurd H (by simp)
  rw [if_pos c79] at H
  have c79b0 := decide_eq_true c79
  have c79b1 : decide (0 < l0_3.length) = true := decide_eq_true (by omega)
  clear c79
  replace H := Option.bind_eq_some_iff.mp H
  obtain ⟨t160, A800, H⟩ := H
  have A80 := Aside0.mk A800
  clear A800
  by_cases c81 : 1 < (l0_3.length : Int)
  rotate_left
  ·rw [if_neg c81] at H
   exact absurd H (by simp)
  rw [if_pos c81] at H
  have c81b0 := decide_eq_true c81
  have c81b1 : decide (1 < l0_3.length) = true := decide_eq_true (by omega)
  clear c81
  replace H := Option.bind_eq_some_iff.mp H
  obtain ⟨t162, A820, H⟩ := H
  have A82 := Aside0.mk A820
  clear A820
  replace H := Option.bind_eq_some_iff.mp H
  obtain ⟨t163, A830, H⟩ := H
  have A83 := Aside0.mk A830
  clear A830
  obtain rfl := Option.some.inj H
  go_enter Tryd.func30, Tryd.ntmps30
  try go_wp2_with (first | ((with_reducible refine gate_dst (N := 2) rfl ?_); refine box_event ?hg (N := 2) ?hd (cs := #[.int .i64 a0_0, .slice A0_1 l0_1.length c0_1, .slice A0_2 l0_2.length c0_2, .slice A0_3 l0_3.length c0_3]) (t := 26) ?hr ?_; (case hd => rfl); (case hg => rfl); (case hr => first | (go_simp; done) | (go_simp; rfl)); intro gb121 hg w84 hbox hb; have BK121 := Aside0.mk (hbox); have GW121 := bsz (w := w) hg; have GE121 := bsz (w := w) hg; replace HB := bst hb; clear hb hbox hg; obtain ⟨_, _, _, _, _, _, _, _⟩ := bx4 BK121.out))
  replace BK121 := Aside0.mk (blk_drew BK121.out)
  replace HB := Aside0.mk (below_drew1 HB.out)
  have p159 : 0 ≤ (0 : Int) := (by omega)
  have q159 : 0 < (l0_3.length : Int) := of_decide_eq_true as_
  obtain ⟨ad159, A159_1, c159_1, A159_2, c159_2, A159_3, c159_3, e159, hx159_0, hx159_1, hx159_2, hx159_3, hl159_1, hi159_1, hl159_2, hi159_2, hl159_3, hi159_3⟩ := at_T26 HR0_3.out 0 p159 q159
  have hw159_3 := hx159_3
  rw [show ((0 : Int)).toNat = 0 from rfl] at hw159_3
  rw [show 0 * 4 = 0 from rfl] at hw159_3
  rw [Addr.add_zero'] at hw159_3
  have hw159_2 := hx159_2
  rw [show ((0 : Int)).toNat = 0 from rfl] at hw159_2
  rw [show 0 * 4 = 0 from rfl] at hw159_2
  rw [Addr.add_zero'] at hw159_2
  have hw159_1 := hx159_1
  rw [show ((0 : Int)).toNat = 0 from rfl] at hw159_1
  rw [show 0 * 4 = 0 from rfl] at hw159_1
  rw [Addr.add_zero'] at hw159_1
  have hw159_0 := hx159_0
  rw [show ((0 : Int)).toNat = 0 from rfl] at hw159_0
  rw [show 0 * 4 = 0 from rfl] at hw159_0
  rw [Addr.add_zero'] at hw159_0
  cases e159
  have qi159 : (0 < l0_3.length) = True := eq_true (by omega)
  rw [show ((0 : Int)).toNat = 0 from rfl] at hx159_0
  rw [show 0 * 4 = 0 from rfl] at hx159_0
  rw [Addr.add_zero'] at hx159_0
  rw [show ((0 : Int)).toNat = 0 from rfl] at hx159_1
  rw [show 0 * 4 = 0 from rfl] at hx159_1
  rw [Addr.add_zero'] at hx159_1
  rw [show ((0 : Int)).toNat = 0 from rfl] at hx159_2
  rw [show 0 * 4 = 0 from rfl] at hx159_2
  rw [Addr.add_zero'] at hx159_2
  rw [show ((0 : Int)).toNat = 0 from rfl] at hx159_3
  rw [show 0 * 4 = 0 from rfl] at hx159_3
  rw [Addr.add_zero'] at hx159_3
  replace hx159_0 := upc hx159_0
  replace hx159_1 := upc hx159_1
  replace hx159_2 := upc hx159_2
  replace hx159_3 := upc hx159_3
  have HR159_1 := Aside0.mk hi159_1
  have HC159_1 := Aside0.mk hl159_1
  clear hi159_1 hl159_1
  have HR159_2 := Aside0.mk hi159_2
  have HC159_2 := Aside0.mk hl159_2
  clear hi159_2 hl159_2
  have HR159_3 := Aside0.mk hi159_3
  have HC159_3 := Aside0.mk hl159_3
  clear hi159_3 hl159_3
  replace p159 := eq_true p159
  replace q159 := eq_true q159
  have p161 : 0 ≤ (1 : Int) := (by omega)
  have q161 : 1 < (l0_3.length : Int) := of_decide_eq_true as_
  obtain ⟨ad161, A161_1, c161_1, A161_2, c161_2, A161_3, c161_3, e161, hx161_0, hx161_1, hx161_2, hx161_3, hl161_1, hi161_1, hl161_2, hi161_2, hl161_3, hi161_3⟩ := at_T26 HR0_3.out 1 p161 q161
  have hw161_3 := hx161_3
  rw [show ((1 : Int)).toNat = 1 from rfl] at hw161_3
  rw [show 1 * 4 = 4 from rfl] at hw161_3
  simp only [Nat.reduceMul, Nat.reduceEqDiff, Go.Addr.add, ↓reduceIte] at hw161_3
  have hw161_2 := hx161_2
  rw [show ((1 : Int)).toNat = 1 from rfl] at hw161_2
  rw [show 1 * 4 = 4 from rfl] at hw161_2
  simp only [Nat.reduceMul, Nat.reduceEqDiff, Go.Addr.add, ↓reduceIte] at hw161_2
  have hw161_1 := hx161_1
  rw [show ((1 : Int)).toNat = 1 from rfl] at hw161_1
  rw [show 1 * 4 = 4 from rfl] at hw161_1
  simp only [Nat.reduceMul, Nat.reduceEqDiff, Go.Addr.add, ↓reduceIte] at hw161_1
  have hw161_0 := hx161_0
  rw [show ((1 : Int)).toNat = 1 from rfl] at hw161_0
  rw [show 1 * 4 = 4 from rfl] at hw161_0
  simp only [Nat.reduceMul, Nat.reduceEqDiff, Go.Addr.add, ↓reduceIte] at hw161_0
  obtain rfl : ad159 = ad161 := (by injection e161)
  simp only [show (1 : Int).toNat = 1 from rfl, Nat.reduceMul, Nat.reduceEqDiff, Go.Addr.add, ↓reduceIte] at hx161_0
  simp only [show (1 : Int).toNat = 1 from rfl, Nat.reduceMul, Nat.reduceEqDiff, Go.Addr.add, ↓reduceIte] at hx161_1
  simp only [show (1 : Int).toNat = 1 from rfl, Nat.reduceMul, Nat.reduceEqDiff, Go.Addr.add, ↓reduceIte] at hx161_2
  simp only [show (1 : Int).toNat = 1 from rfl, Nat.reduceMul, Nat.reduceEqDiff, Go.Addr.add, ↓reduceIte] at hx161_3
  have qi161 : (1 < l0_3.length) = True := eq_true (by omega)
  replace hx161_0 := upc hx161_0
  replace hx161_1 := upc hx161_1
  replace hx161_2 := upc hx161_2
  replace hx161_3 := upc hx161_3
  have HR161_1 := Aside0.mk hi161_1
  have HC161_1 := Aside0.mk hl161_1
  clear hi161_1 hl161_1
  have HR161_2 := Aside0.mk hi161_2
  have HC161_2 := Aside0.mk hl161_2
  clear hi161_2 hl161_2
  have HR161_3 := Aside0.mk hi161_3
  have HC161_3 := Aside0.mk hl161_3
  clear hi161_3 hl161_3
  replace p161 := eq_true p161
  replace q161 := eq_true q161
  refine st (S := fun w' => w'.cell? ⟨gb121, 0, none⟩ = some (.int .i64 a0_0) ∧ w'.cell? ⟨gb121, 1, none⟩ = some (.slice A0_1 l0_1.length c0_1) ∧ w'.cell? ⟨gb121, 2, none⟩ = some (.slice A0_2 l0_2.length c0_2) ∧ w'.cell? ⟨gb121, 3, none⟩ = some (.slice (some ad159) l0_3.length c0_3) ∧ w'.cell? ad159 = some (.int .i64 ((rd_T26 l0_3 0).f0)) ∧ w'.cell? ⟨ad159.block, ad159.off + 1, none⟩ = some (.slice A159_1 ((rd_T26 l0_3 0).f1).length c159_1) ∧ w'.cell? ⟨ad159.block, ad159.off + 2, none⟩ = some (.slice A159_2 ((rd_T26 l0_3 0).f2).length c159_2) ∧ w'.cell? ⟨ad159.block, ad159.off + 3, none⟩ = some (.slice A159_3 ((rd_T26 l0_3 0).f3).length c159_3) ∧ w'.cell? ⟨ad159.block, ad159.off + 4, none⟩ = some (.int .i64 ((rd_T26 l0_3 1).f0)) ∧ w'.cell? ⟨ad159.block, ad159.off + 4 + 1, none⟩ = some (.slice A161_1 ((rd_T26 l0_3 1).f1).length c161_1) ∧ w'.cell? ⟨ad159.block, ad159.off + 4 + 2, none⟩ = some (.slice A161_2 ((rd_T26 l0_3 1).f2).length c161_2) ∧ w'.cell? ⟨ad159.block, ad159.off + 4 + 3, none⟩ = some (.slice A161_3 ((rd_T26 l0_3 1).f3).length c161_3)) (ds := []) (fun hHeld => ?_); refine with_tabW sched_at.tab33 sched_at.bits33 (fun HT_ HW_ => ?_)
  generalize w84.drew = w86 at BK121 HB HR159_1 HR159_2 HR159_3 HR161_1 HR161_2 HR161_3 hx159_0 hx159_1 hx159_2 hx159_3 hx161_0 hx161_1 hx161_2 hx161_3 hHeld ⊢
  refine pu (i := 0) (N := some 175) ?_
  refine pu (i := 4) (N := some 179) ?_
  refine pu (i := 6) (N := some 181) ?_
  refine pu (i := 10) (N := some 185) ?_
  refine tk (i := 1) (N := some 176) ?_
  refine pu (i := 2) (N := some 177) ?_
  refine tk (i := 3) (N := some 178) ?_
  refine tk (i := 7) (N := some 182) ?_
  refine pu (i := 8) (N := some 183) ?_
  refine tk (i := 9) (N := some 184) ?_
  refine on (i := 5) (N := some 180) (fun K hK => ?_)
  refine gB Tryd.func30 (ih k (by omega) ((rd_T26 l0_3 0).f0) _ _ ((rd_T26 l0_3 0).f1) _ _ ((rd_T26 l0_3 0).f2) _ _ ((rd_T26 l0_3 0).f3) a1 t160 _ (Wav.Lies.keep hl_ hbb) (cb HR159_1) HC159_1.out (cb HR159_2) HC159_2.out (cb HR159_3) HC159_3.out A80.out) (fun w87 hb => ?_)
  replace BK121 := bks BK121 hb
  replace HB := bst hb
  clear hb
  refine nx hK.out (fun hHeld => ?_)
  refine on (i := 11) (N := some 186) (fun K hK => ?_)
  refine gB Tryd.func30 (ih k (by omega) ((rd_T26 l0_3 1).f0) _ _ ((rd_T26 l0_3 1).f1) _ _ ((rd_T26 l0_3 1).f2) _ _ ((rd_T26 l0_3 1).f3) a1 t162 _ (Wav.Lies.keep hl_ hbb) (cb HR161_1) HC161_1.out (cb HR161_2) HC161_2.out (cb HR161_3) HC161_3.out A82.out) (fun w88 hb => ?_)
  replace BK121 := bks BK121 hb
  replace HB := bst hb
  clear hb
  refine nx hK.out (fun hHeld => ?_)
  refine on (i := 12) (N := some 187) (fun K hK => ?_)
  refine gA Tryd.func41 #[.int .u32 t160, .int .u32 t162] ?_
  with_reducible refine (float_Add.calls t160 t162 t163 _ A83.out).mono ?_
  rintro e w' ⟨rfl, ⟨nd, rfl⟩⟩
  refine ⟨_, rfl, ?_⟩
  refine nx hK.out (fun hHeld => ?_)
  refine pu (i := 13) (N := some 4) ?_
  refine done_ (done_of HT_.out (by kernel_rfl)) ?_
  try go_wp2
  go_ret
  exact fin_
 rw [if_neg c78] at H
 have c78b0 : (a0_0 == 8) = false := beq_eq_false_iff_ne.mpr c78
 have c78b1 : (a0_0 != 8) = true := bne_iff_ne.mpr c78
 by_cases c89 : a0_0 = 9
 ·rw [if_pos c89] at H
  have c89b0 : (a0_0 == 9) = true := beq_iff_eq.mpr c89
  have c89b1 : (a0_0 != 9) = false := bne_eq_false_iff_eq.mpr c89
  clear c89
  by_cases c90 : 0 < (l0_3.length : Int)
  rotate_left
  ·rw [if_neg c90] at H
   exact absurd H (by simp)
  rw [if_pos c90] at H
  have c90b0 := decide_eq_true c90
  have c90b1 : decide (0 < l0_3.length) = true := decide_eq_true (by omega)
  clear c90
  replace H := Option.bind_eq_some_iff.mp H
  obtain ⟨t165, A910, H⟩ := H
  have A91 := Aside0.mk A910
  clear A910
  by_cases c92 : 1 < (l0_3.length : Int)
  rotate_left
  ·rw [if_neg c92] at H
   exact absurd H (by simp)
  rw [if_pos c92] at H
  have c92b0 := decide_eq_true c92
  have c92b1 : decide (1 < l0_3.length) = true := decide_eq_true (by omega)
  clear c92
  replace H := Option.bind_eq_some_iff.mp H
  obtain ⟨t167, A930, H⟩ := H
  have A93 := Aside0.mk A930
  clear A930
  replace H := Option.bind_eq_some_iff.mp H
  obtain ⟨t168, A940, H⟩ := H
  have A94 := Aside0.mk A940
  clear A940
  obtain rfl := Option.some.inj H
  go_enter Tryd.func30, Tryd.ntmps30
  try go_wp2_with (first | ((with_reducible refine gate_dst (N := 2) rfl ?_); refine box_event ?hg (N := 2) ?hd (cs := #[.int .i64 a0_0, .slice A0_1 l0_1.length c0_1, .slice A0_2 l0_2.length c0_2, .slice A0_3 l0_3.length c0_3]) (t := 26) ?hr ?_; (case hd => rfl); (case hg => rfl); (case hr => first | (go_simp; done) | (go_simp; rfl)); intro gb121 hg w95 hbox hb; have BK121 := Aside0.mk (hbox); have GW121 := bsz (w := w) hg; have GE121 := bsz (w := w) hg; replace HB := bst hb; clear hb hbox hg; obtain ⟨_, _, _, _, _, _, _, _⟩ := bx4 BK121.out))
  replace BK121 := Aside0.mk (blk_drew BK121.out)
  replace HB := Aside0.mk (below_drew1 HB.out)
  have p164 : 0 ≤ (0 : Int) := (by omega)
  have q164 : 0 < (l0_3.length : Int) := of_decide_eq_true as_
  obtain ⟨ad164, A164_1, c164_1, A164_2, c164_2, A164_3, c164_3, e164, hx164_0, hx164_1, hx164_2, hx164_3, hl164_1, hi164_1, hl164_2, hi164_2, hl164_3, hi164_3⟩ := at_T26 HR0_3.out 0 p164 q164
  have hw164_3 := hx164_3
  rw [show ((0 : Int)).toNat = 0 from rfl] at hw164_3
  rw [show 0 * 4 = 0 from rfl] at hw164_3
  rw [Addr.add_zero'] at hw164_3
  have hw164_2 := hx164_2
  rw [show ((0 : Int)).toNat = 0 from rfl] at hw164_2
  rw [show 0 * 4 = 0 from rfl] at hw164_2
  rw [Addr.add_zero'] at hw164_2
  have hw164_1 := hx164_1
  rw [show ((0 : Int)).toNat = 0 from rfl] at hw164_1
  rw [show 0 * 4 = 0 from rfl] at hw164_1
  rw [Addr.add_zero'] at hw164_1
  have hw164_0 := hx164_0
  rw [show ((0 : Int)).toNat = 0 from rfl] at hw164_0
  rw [show 0 * 4 = 0 from rfl] at hw164_0
  rw [Addr.add_zero'] at hw164_0
  cases e164
  have qi164 : (0 < l0_3.length) = True := eq_true (by omega)
  rw [show ((0 : Int)).toNat = 0 from rfl] at hx164_0
  rw [show 0 * 4 = 0 from rfl] at hx164_0
  rw [Addr.add_zero'] at hx164_0
  rw [show ((0 : Int)).toNat = 0 from rfl] at hx164_1
  rw [show 0 * 4 = 0 from rfl] at hx164_1
  rw [Addr.add_zero'] at hx164_1
  rw [show ((0 : Int)).toNat = 0 from rfl] at hx164_2
  rw [show 0 * 4 = 0 from rfl] at hx164_2
  rw [Addr.add_zero'] at hx164_2
  rw [show ((0 : Int)).toNat = 0 from rfl] at hx164_3
  rw [show 0 * 4 = 0 from rfl] at hx164_3
  rw [Addr.add_zero'] at hx164_3
  replace hx164_0 := upc hx164_0
  replace hx164_1 := upc hx164_1
  replace hx164_2 := upc hx164_2
  replace hx164_3 := upc hx164_3
  have HR164_1 := Aside0.mk hi164_1
  have HC164_1 := Aside0.mk hl164_1
  clear hi164_1 hl164_1
  have HR164_2 := Aside0.mk hi164_2
  have HC164_2 := Aside0.mk hl164_2
  clear hi164_2 hl164_2
  have HR164_3 := Aside0.mk hi164_3
  have HC164_3 := Aside0.mk hl164_3
  clear hi164_3 hl164_3
  replace p164 := eq_true p164
  replace q164 := eq_true q164
  have p166 : 0 ≤ (1 : Int) := (by omega)
  have q166 : 1 < (l0_3.length : Int) := of_decide_eq_true as_
  obtain ⟨ad166, A166_1, c166_1, A166_2, c166_2, A166_3, c166_3, e166, hx166_0, hx166_1, hx166_2, hx166_3, hl166_1, hi166_1, hl166_2, hi166_2, hl166_3, hi166_3⟩ := at_T26 HR0_3.out 1 p166 q166
  have hw166_3 := hx166_3
  rw [show ((1 : Int)).toNat = 1 from rfl] at hw166_3
  rw [show 1 * 4 = 4 from rfl] at hw166_3
  simp only [Nat.reduceMul, Nat.reduceEqDiff, Go.Addr.add, ↓reduceIte] at hw166_3
  have hw166_2 := hx166_2
  rw [show ((1 : Int)).toNat = 1 from rfl] at hw166_2
  rw [show 1 * 4 = 4 from rfl] at hw166_2
  simp only [Nat.reduceMul, Nat.reduceEqDiff, Go.Addr.add, ↓reduceIte] at hw166_2
  have hw166_1 := hx166_1
  rw [show ((1 : Int)).toNat = 1 from rfl] at hw166_1
  rw [show 1 * 4 = 4 from rfl] at hw166_1
  simp only [Nat.reduceMul, Nat.reduceEqDiff, Go.Addr.add, ↓reduceIte] at hw166_1
  have hw166_0 := hx166_0
  rw [show ((1 : Int)).toNat = 1 from rfl] at hw166_0
  rw [show 1 * 4 = 4 from rfl] at hw166_0
  simp only [Nat.reduceMul, Nat.reduceEqDiff, Go.Addr.add, ↓reduceIte] at hw166_0
  obtain rfl : ad164 = ad166 := (by injection e166)
  simp only [show (1 : Int).toNat = 1 from rfl, Nat.reduceMul, Nat.reduceEqDiff, Go.Addr.add, ↓reduceIte] at hx166_0
  simp only [show (1 : Int).toNat = 1 from rfl, Nat.reduceMul, Nat.reduceEqDiff, Go.Addr.add, ↓reduceIte] at hx166_1
  simp only [show (1 : Int).toNat = 1 from rfl, Nat.reduceMul, Nat.reduceEqDiff, Go.Addr.add, ↓reduceIte] at hx166_2
  simp only [show (1 : Int).toNat = 1 from rfl, Nat.reduceMul, Nat.reduceEqDiff, Go.Addr.add, ↓reduceIte] at hx166_3
  have qi166 : (1 < l0_3.length) = True := eq_true (by omega)
  replace hx166_0 := upc hx166_0
  replace hx166_1 := upc hx166_1
  replace hx166_2 := upc hx166_2
  replace hx166_3 := upc hx166_3
  have HR166_1 := Aside0.mk hi166_1
  have HC166_1 := Aside0.mk hl166_1
  clear hi166_1 hl166_1
  have HR166_2 := Aside0.mk hi166_2
  have HC166_2 := Aside0.mk hl166_2
  clear hi166_2 hl166_2
  have HR166_3 := Aside0.mk hi166_3
  have HC166_3 := Aside0.mk hl166_3
  clear hi166_3 hl166_3
  replace p166 := eq_true p166
  replace q166 := eq_true q166
  refine st (S := fun w' => w'.cell? ⟨gb121, 0, none⟩ = some (.int .i64 a0_0) ∧ w'.cell? ⟨gb121, 1, none⟩ = some (.slice A0_1 l0_1.length c0_1) ∧ w'.cell? ⟨gb121, 2, none⟩ = some (.slice A0_2 l0_2.length c0_2) ∧ w'.cell? ⟨gb121, 3, none⟩ = some (.slice (some ad164) l0_3.length c0_3) ∧ w'.cell? ad164 = some (.int .i64 ((rd_T26 l0_3 0).f0)) ∧ w'.cell? ⟨ad164.block, ad164.off + 1, none⟩ = some (.slice A164_1 ((rd_T26 l0_3 0).f1).length c164_1) ∧ w'.cell? ⟨ad164.block, ad164.off + 2, none⟩ = some (.slice A164_2 ((rd_T26 l0_3 0).f2).length c164_2) ∧ w'.cell? ⟨ad164.block, ad164.off + 3, none⟩ = some (.slice A164_3 ((rd_T26 l0_3 0).f3).length c164_3) ∧ w'.cell? ⟨ad164.block, ad164.off + 4, none⟩ = some (.int .i64 ((rd_T26 l0_3 1).f0)) ∧ w'.cell? ⟨ad164.block, ad164.off + 4 + 1, none⟩ = some (.slice A166_1 ((rd_T26 l0_3 1).f1).length c166_1) ∧ w'.cell? ⟨ad164.block, ad164.off + 4 + 2, none⟩ = some (.slice A166_2 ((rd_T26 l0_3 1).f2).length c166_2) ∧ w'.cell? ⟨ad164.block, ad164.off + 4 + 3, none⟩ = some (.slice A166_3 ((rd_T26 l0_3 1).f3).length c166_3)) (ds := []) (fun hHeld => ?_); refine with_tabW sched_at.tab35 sched_at.bits35 (fun HT_ HW_ => ?_)
  generalize w95.drew = w97 at BK121 HB HR164_1 HR164_2 HR164_3 HR166_1 HR166_2 HR166_3 hx164_0 hx164_1 hx164_2 hx164_3 hx166_0 hx166_1 hx166_2 hx166_3 hHeld ⊢
  refine pu (i := 0) (N := some 190) ?_
  refine pu (i := 4) (N := some 194) ?_
  refine pu (i := 6) (N := some 196) ?_
  refine pu (i := 10) (N := some 200) ?_
  refine tk (i := 1) (N := some 191) ?_
  refine pu (i := 2) (N := some 192) ?_
  refine tk (i := 3) (N := some 193) ?_
  refine tk (i := 7) (N := some 197) ?_
  refine pu (i := 8) (N := some 198) ?_
  refine tk (i := 9) (N := some 199) ?_
  refine on (i := 5) (N := some 195) (fun K hK => ?_)
  refine gB Tryd.func30 (ih k (by omega) ((rd_T26 l0_3 0).f0) _ _ ((rd_T26 l0_3 0).f1) _ _ ((rd_T26 l0_3 0).f2) _ _ ((rd_T26 l0_3 0).f3) a1 t165 _ (Wav.Lies.keep hl_ hbb) (cb HR164_1) HC164_1.out (cb HR164_2) HC164_2.out (cb HR164_3) HC164_3.out A91.out) (fun w98 hb => ?_)
  replace BK121 := bks BK121 hb
  replace HB := bst hb
  clear hb
  refine nx hK.out (fun hHeld => ?_)
  refine on (i := 11) (N := some 201) (fun K hK => ?_)
  refine gB Tryd.func30 (ih k (by omega) ((rd_T26 l0_3 1).f0) _ _ ((rd_T26 l0_3 1).f1) _ _ ((rd_T26 l0_3 1).f2) _ _ ((rd_T26 l0_3 1).f3) a1 t167 _ (Wav.Lies.keep hl_ hbb) (cb HR166_1) HC166_1.out (cb HR166_2) HC166_2.out (cb HR166_3) HC166_3.out A93.out) (fun w99 hb => ?_)
  replace BK121 := bks BK121 hb
  replace HB := bst hb
  clear hb
  refine nx hK.out (fun hHeld => ?_)
  refine on (i := 12) (N := some 202) (fun K hK => ?_)
  refine gA Tryd.func40 #[.int .u32 t165, .int .u32 t167] ?_
  with_reducible refine (float_Mul.calls t165 t167 t168 _ A94.out).mono ?_
  rintro e w' ⟨rfl, ⟨nd, rfl⟩⟩
  refine ⟨_, rfl, ?_⟩
  refine nx hK.out (fun hHeld => ?_)
  refine pu (i := 13) (N := some 4) ?_
  refine done_ (done_of HT_.out (by kernel_rfl)) ?_
  try go_wp2
  go_ret
  exact fin_
 rw [if_neg c89] at H
 have c89b0 : (a0_0 == 9) = false := beq_eq_false_iff_ne.mpr c89
 have c89b1 : (a0_0 != 9) = true := bne_iff_ne.mpr c89
 by_cases c100 : a0_0 = 10
 ·rw [if_pos c100] at H
  have c100b0 : (a0_0 == 10) = true := beq_iff_eq.mpr c100
  have c100b1 : (a0_0 != 10) = false := bne_eq_false_iff_eq.mpr c100
  clear c100
  by_cases c101 : 0 < (l0_3.length : Int)
  rotate_left
  ·rw [if_neg c101] at H
   exact absurd H (by simp)
  rw [if_pos c101] at H
  have c101b0 := decide_eq_true c101
  have c101b1 : decide (0 < l0_3.length) = true := decide_eq_true (by omega)
  clear c101
  replace H := Option.bind_eq_some_iff.mp H
  obtain ⟨t170, A1020, H⟩ := H
  have A102 := Aside0.mk A1020
  clear A1020
  by_cases c103 : 1 < (l0_3.length : Int)
  rotate_left
  ·rw [if_neg c103] at H
   exact absurd H (by simp)
  rw [if_pos c103] at H
  have c103b0 := decide_eq_true c103
  have c103b1 : decide (1 < l0_3.length) = true := decide_eq_true (by omega)
  clear c103
  replace H := Option.bind_eq_some_iff.mp H
  obtain ⟨t172, A1040, H⟩ := H
  have A104 := Aside0.mk A1040
  clear A1040
  replace H := Option.bind_eq_some_iff.mp H
  obtain ⟨t173, A1050, H⟩ := H
  have A105 := Aside0.mk A1050
  clear A1050
  obtain rfl := Option.some.inj H
  go_enter Tryd.func30, Tryd.ntmps30
  try go_wp2_with (first | ((with_reducible refine gate_dst (N := 2) rfl ?_); refine box_event ?hg (N := 2) ?hd (cs := #[.int .i64 a0_0, .slice A0_1 l0_1.length c0_1, .slice A0_2 l0_2.length c0_2, .slice A0_3 l0_3.length c0_3]) (t := 26) ?hr ?_; (case hd => rfl); (case hg => rfl); (case hr => first | (go_simp; done) | (go_simp; rfl)); intro gb121 hg w106 hbox hb; have BK121 := Aside0.mk (hbox); have GW121 := bsz (w := w) hg; have GE121 := bsz (w := w) hg; replace HB := bst hb; clear hb hbox hg; obtain ⟨_, _, _, _, _, _, _, _⟩ := bx4 BK121.out))
  replace BK121 := Aside0.mk (blk_drew BK121.out)
  replace HB := Aside0.mk (below_drew1 HB.out)
  have p169 : 0 ≤ (0 : Int) := (by omega)
  have q169 : 0 < (l0_3.length : Int) := of_decide_eq_true as_
  obtain ⟨ad169, A169_1, c169_1, A169_2, c169_2, A169_3, c169_3, e169, hx169_0, hx169_1, hx169_2, hx169_3, hl169_1, hi169_1, hl169_2, hi169_2, hl169_3, hi169_3⟩ := at_T26 HR0_3.out 0 p169 q169
  have hw169_3 := hx169_3
  rw [show ((0 : Int)).toNat = 0 from rfl] at hw169_3
  rw [show 0 * 4 = 0 from rfl] at hw169_3
  rw [Addr.add_zero'] at hw169_3
  have hw169_2 := hx169_2
  rw [show ((0 : Int)).toNat = 0 from rfl] at hw169_2
  rw [show 0 * 4 = 0 from rfl] at hw169_2
  rw [Addr.add_zero'] at hw169_2
  have hw169_1 := hx169_1
  rw [show ((0 : Int)).toNat = 0 from rfl] at hw169_1
  rw [show 0 * 4 = 0 from rfl] at hw169_1
  rw [Addr.add_zero'] at hw169_1
  have hw169_0 := hx169_0
  rw [show ((0 : Int)).toNat = 0 from rfl] at hw169_0
  rw [show 0 * 4 = 0 from rfl] at hw169_0
  rw [Addr.add_zero'] at hw169_0
  cases e169
  have qi169 : (0 < l0_3.length) = True := eq_true (by omega)
  rw [show ((0 : Int)).toNat = 0 from rfl] at hx169_0
  rw [show 0 * 4 = 0 from rfl] at hx169_0
  rw [Addr.add_zero'] at hx169_0
  rw [show ((0 : Int)).toNat = 0 from rfl] at hx169_1
  rw [show 0 * 4 = 0 from rfl] at hx169_1
  rw [Addr.add_zero'] at hx169_1
  rw [show ((0 : Int)).toNat = 0 from rfl] at hx169_2
  rw [show 0 * 4 = 0 from rfl] at hx169_2
  rw [Addr.add_zero'] at hx169_2
  rw [show ((0 : Int)).toNat = 0 from rfl] at hx169_3
  rw [show 0 * 4 = 0 from rfl] at hx169_3
  rw [Addr.add_zero'] at hx169_3
  replace hx169_0 := upc hx169_0
  replace hx169_1 := upc hx169_1
  replace hx169_2 := upc hx169_2
  replace hx169_3 := upc hx169_3
  have HR169_1 := Aside0.mk hi169_1
  have HC169_1 := Aside0.mk hl169_1
  clear hi169_1 hl169_1
  have HR169_2 := Aside0.mk hi169_2
  have HC169_2 := Aside0.mk hl169_2
  clear hi169_2 hl169_2
  have HR169_3 := Aside0.mk hi169_3
  have HC169_3 := Aside0.mk hl169_3
  clear hi169_3 hl169_3
  replace p169 := eq_true p169
  replace q169 := eq_true q169
  have p171 : 0 ≤ (1 : Int) := (by omega)
  have q171 : 1 < (l0_3.length : Int) := of_decide_eq_true as_
  obtain ⟨ad171, A171_1, c171_1, A171_2, c171_2, A171_3, c171_3, e171, hx171_0, hx171_1, hx171_2, hx171_3, hl171_1, hi171_1, hl171_2, hi171_2, hl171_3, hi171_3⟩ := at_T26 HR0_3.out 1 p171 q171
  have hw171_3 := hx171_3
  rw [show ((1 : Int)).toNat = 1 from rfl] at hw171_3
  rw [show 1 * 4 = 4 from rfl] at hw171_3
  simp only [Nat.reduceMul, Nat.reduceEqDiff, Go.Addr.add, ↓reduceIte] at hw171_3
  have hw171_2 := hx171_2
  rw [show ((1 : Int)).toNat = 1 from rfl] at hw171_2
  rw [show 1 * 4 = 4 from rfl] at hw171_2
  simp only [Nat.reduceMul, Nat.reduceEqDiff, Go.Addr.add, ↓reduceIte] at hw171_2
  have hw171_1 := hx171_1
  rw [show ((1 : Int)).toNat = 1 from rfl] at hw171_1
  rw [show 1 * 4 = 4 from rfl] at hw171_1
  simp only [Nat.reduceMul, Nat.reduceEqDiff, Go.Addr.add, ↓reduceIte] at hw171_1
  have hw171_0 := hx171_0
  rw [show ((1 : Int)).toNat = 1 from rfl] at hw171_0
  rw [show 1 * 4 = 4 from rfl] at hw171_0
  simp only [Nat.reduceMul, Nat.reduceEqDiff, Go.Addr.add, ↓reduceIte] at hw171_0
  obtain rfl : ad169 = ad171 := (by injection e171)
  simp only [show (1 : Int).toNat = 1 from rfl, Nat.reduceMul, Nat.reduceEqDiff, Go.Addr.add, ↓reduceIte] at hx171_0
  simp only [show (1 : Int).toNat = 1 from rfl, Nat.reduceMul, Nat.reduceEqDiff, Go.Addr.add, ↓reduceIte] at hx171_1
  simp only [show (1 : Int).toNat = 1 from rfl, Nat.reduceMul, Nat.reduceEqDiff, Go.Addr.add, ↓reduceIte] at hx171_2
  simp only [show (1 : Int).toNat = 1 from rfl, Nat.reduceMul, Nat.reduceEqDiff, Go.Addr.add, ↓reduceIte] at hx171_3
  have qi171 : (1 < l0_3.length) = True := eq_true (by omega)
  replace hx171_0 := upc hx171_0
  replace hx171_1 := upc hx171_1
  replace hx171_2 := upc hx171_2
  replace hx171_3 := upc hx171_3
  have HR171_1 := Aside0.mk hi171_1
  have HC171_1 := Aside0.mk hl171_1
  clear hi171_1 hl171_1
  have HR171_2 := Aside0.mk hi171_2
  have HC171_2 := Aside0.mk hl171_2
  clear hi171_2 hl171_2
  have HR171_3 := Aside0.mk hi171_3
  have HC171_3 := Aside0.mk hl171_3
  clear hi171_3 hl171_3
  replace p171 := eq_true p171
  replace q171 := eq_true q171
  refine st (S := fun w' => w'.cell? ⟨gb121, 0, none⟩ = some (.int .i64 a0_0) ∧ w'.cell? ⟨gb121, 1, none⟩ = some (.slice A0_1 l0_1.length c0_1) ∧ w'.cell? ⟨gb121, 2, none⟩ = some (.slice A0_2 l0_2.length c0_2) ∧ w'.cell? ⟨gb121, 3, none⟩ = some (.slice (some ad169) l0_3.length c0_3) ∧ w'.cell? ad169 = some (.int .i64 ((rd_T26 l0_3 0).f0)) ∧ w'.cell? ⟨ad169.block, ad169.off + 1, none⟩ = some (.slice A169_1 ((rd_T26 l0_3 0).f1).length c169_1) ∧ w'.cell? ⟨ad169.block, ad169.off + 2, none⟩ = some (.slice A169_2 ((rd_T26 l0_3 0).f2).length c169_2) ∧ w'.cell? ⟨ad169.block, ad169.off + 3, none⟩ = some (.slice A169_3 ((rd_T26 l0_3 0).f3).length c169_3) ∧ w'.cell? ⟨ad169.block, ad169.off + 4, none⟩ = some (.int .i64 ((rd_T26 l0_3 1).f0)) ∧ w'.cell? ⟨ad169.block, ad169.off + 4 + 1, none⟩ = some (.slice A171_1 ((rd_T26 l0_3 1).f1).length c171_1) ∧ w'.cell? ⟨ad169.block, ad169.off + 4 + 2, none⟩ = some (.slice A171_2 ((rd_T26 l0_3 1).f2).length c171_2) ∧ w'.cell? ⟨ad169.block, ad169.off + 4 + 3, none⟩ = some (.slice A171_3 ((rd_T26 l0_3 1).f3).length c171_3)) (ds := []) (fun hHeld => ?_); refine with_tabW sched_at.tab37 sched_at.bits37 (fun HT_ HW_ => ?_)
  generalize w106.drew = w108 at BK121 HB HR169_1 HR169_2 HR169_3 HR171_1 HR171_2 HR171_3 hx169_0 hx169_1 hx169_2 hx169_3 hx171_0 hx171_1 hx171_2 hx171_3 hHeld ⊢
  refine pu (i := 0) (N := some 205) ?_
  refine pu (i := 4) (N := some 209) ?_
  refine pu (i := 6) (N := some 211) ?_
  refine pu (i := 10) (N := some 215) ?_
  refine tk (i := 1) (N := some 206) ?_
  refine pu (i := 2) (N := some 207) ?_
  refine tk (i := 3) (N := some 208) ?_
  refine tk (i := 7) (N := some 212) ?_
  refine pu (i := 8) (N := some 213) ?_
  refine tk (i := 9) (N := some 214) ?_
  refine on (i := 5) (N := some 210) (fun K hK => ?_)
  refine gB Tryd.func30 (ih k (by omega) ((rd_T26 l0_3 0).f0) _ _ ((rd_T26 l0_3 0).f1) _ _ ((rd_T26 l0_3 0).f2) _ _ ((rd_T26 l0_3 0).f3) a1 t170 _ (Wav.Lies.keep hl_ hbb) (cb HR169_1) HC169_1.out (cb HR169_2) HC169_2.out (cb HR169_3) HC169_3.out A102.out) (fun w109 hb => ?_)
  replace BK121 := bks BK121 hb
  replace HB := bst hb
  clear hb
  refine nx hK.out (fun hHeld => ?_)
  refine on (i := 11) (N := some 216) (fun K hK => ?_)
  refine gB Tryd.func30 (ih k (by omega) ((rd_T26 l0_3 1).f0) _ _ ((rd_T26 l0_3 1).f1) _ _ ((rd_T26 l0_3 1).f2) _ _ ((rd_T26 l0_3 1).f3) a1 t172 _ (Wav.Lies.keep hl_ hbb) (cb HR171_1) HC171_1.out (cb HR171_2) HC171_2.out (cb HR171_3) HC171_3.out A104.out) (fun w110 hb => ?_)
  replace BK121 := bks BK121 hb
  replace HB := bst hb
  clear hb
  refine nx hK.out (fun hHeld => ?_)
  refine on (i := 12) (N := some 217) (fun K hK => ?_)
  refine gA Tryd.func36 #[.int .u32 t170, .int .u32 t172] ?_
  with_reducible refine (float_Min.calls t170 t172 t173 _ A105.out).mono ?_
  rintro e w' ⟨rfl, ⟨nd, rfl⟩⟩
  refine ⟨_, rfl, ?_⟩
  refine nx hK.out (fun hHeld => ?_)
  refine pu (i := 13) (N := some 4) ?_
  refine done_ (done_of HT_.out (by kernel_rfl)) ?_
  try go_wp2
  go_ret
  exact fin_
 rw [if_neg c100] at H
 have c100b0 : (a0_0 == 10) = false := beq_eq_false_iff_ne.mpr c100
 have c100b1 : (a0_0 != 10) = true := bne_iff_ne.mpr c100
 by_cases c111 : a0_0 = 11
 ·rw [if_pos c111] at H
  have c111b0 : (a0_0 == 11) = true := beq_iff_eq.mpr c111
  have c111b1 : (a0_0 != 11) = false := bne_eq_false_iff_eq.mpr c111
  clear c111
  by_cases c112 : 0 < (l0_3.length : Int)
  rotate_left
  ·rw [if_neg c112] at H
   exact absurd H (by simp)
  rw [if_pos c112] at H
  have c112b0 := decide_eq_true c112
  have c112b1 : decide (0 < l0_3.length) = true := decide_eq_true (by omega)
  clear c112
  replace H := Option.bind_eq_some_iff.mp H
  obtain ⟨t175, A1130, H⟩ := H
  have A113 := Aside0.mk A1130
  clear A1130
  by_cases c114 : 1 < (l0_3.length : Int)
  rotate_left
  ·rw [if_neg c114] at H
   exact absurd H (by simp)
  rw [if_pos c114] at H
  have c114b0 := decide_eq_true c114
  have c114b1 : decide (1 < l0_3.length) = true := decide_eq_true (by omega)
  clear c114
  replace H := Option.bind_eq_some_iff.mp H
  obtain ⟨t177, A1150, H⟩ := H
  have A115 := Aside0.mk A1150
  clear A1150
  replace H := Option.bind_eq_some_iff.mp H
  obtain ⟨t178, A1160, H⟩ := H
  have A116 := Aside0.mk A1160
  clear A1160
  obtain rfl := Option.some.inj H
  go_enter Tryd.func30, Tryd.ntmps30
  try go_wp2_with (first | ((with_reducible refine gate_dst (N := 2) rfl ?_); refine box_event ?hg (N := 2) ?hd (cs := #[.int .i64 a0_0, .slice A0_1 l0_1.length c0_1, .slice A0_2 l0_2.length c0_2, .slice A0_3 l0_3.length c0_3]) (t := 26) ?hr ?_; (case hd => rfl); (case hg => rfl); (case hr => first | (go_simp; done) | (go_simp; rfl)); intro gb121 hg w117 hbox hb; have BK121 := Aside0.mk (hbox); have GW121 := bsz (w := w) hg; have GE121 := bsz (w := w) hg; replace HB := bst hb; clear hb hbox hg; obtain ⟨_, _, _, _, _, _, _, _⟩ := bx4 BK121.out))
  replace BK121 := Aside0.mk (blk_drew BK121.out)
  replace HB := Aside0.mk (below_drew1 HB.out)
  have p174 : 0 ≤ (0 : Int) := (by omega)
  have q174 : 0 < (l0_3.length : Int) := of_decide_eq_true as_
  obtain ⟨ad174, A174_1, c174_1, A174_2, c174_2, A174_3, c174_3, e174, hx174_0, hx174_1, hx174_2, hx174_3, hl174_1, hi174_1, hl174_2, hi174_2, hl174_3, hi174_3⟩ := at_T26 HR0_3.out 0 p174 q174
  have hw174_3 := hx174_3
  rw [show ((0 : Int)).toNat = 0 from rfl] at hw174_3
  rw [show 0 * 4 = 0 from rfl] at hw174_3
  rw [Addr.add_zero'] at hw174_3
  have hw174_2 := hx174_2
  rw [show ((0 : Int)).toNat = 0 from rfl] at hw174_2
  rw [show 0 * 4 = 0 from rfl] at hw174_2
  rw [Addr.add_zero'] at hw174_2
  have hw174_1 := hx174_1
  rw [show ((0 : Int)).toNat = 0 from rfl] at hw174_1
  rw [show 0 * 4 = 0 from rfl] at hw174_1
  rw [Addr.add_zero'] at hw174_1
  have hw174_0 := hx174_0
  rw [show ((0 : Int)).toNat = 0 from rfl] at hw174_0
  rw [show 0 * 4 = 0 from rfl] at hw174_0
  rw [Addr.add_zero'] at hw174_0
  cases e174
  have qi174 : (0 < l0_3.length) = True := eq_true (by omega)
  rw [show ((0 : Int)).toNat = 0 from rfl] at hx174_0
  rw [show 0 * 4 = 0 from rfl] at hx174_0
  rw [Addr.add_zero'] at hx174_0
  rw [show ((0 : Int)).toNat = 0 from rfl] at hx174_1
  rw [show 0 * 4 = 0 from rfl] at hx174_1
  rw [Addr.add_zero'] at hx174_1
  rw [show ((0 : Int)).toNat = 0 from rfl] at hx174_2
  rw [show 0 * 4 = 0 from rfl] at hx174_2
  rw [Addr.add_zero'] at hx174_2
  rw [show ((0 : Int)).toNat = 0 from rfl] at hx174_3
  rw [show 0 * 4 = 0 from rfl] at hx174_3
  rw [Addr.add_zero'] at hx174_3
  replace hx174_0 := upc hx174_0
  replace hx174_1 := upc hx174_1
  replace hx174_2 := upc hx174_2
  replace hx174_3 := upc hx174_3
  have HR174_1 := Aside0.mk hi174_1
  have HC174_1 := Aside0.mk hl174_1
  clear hi174_1 hl174_1
  have HR174_2 := Aside0.mk hi174_2
  have HC174_2 := Aside0.mk hl174_2
  clear hi174_2 hl174_2
  have HR174_3 := Aside0.mk hi174_3
  have HC174_3 := Aside0.mk hl174_3
  clear hi174_3 hl174_3
  replace p174 := eq_true p174
  replace q174 := eq_true q174
  have p176 : 0 ≤ (1 : Int) := (by omega)
  have q176 : 1 < (l0_3.length : Int) := of_decide_eq_true as_
  obtain ⟨ad176, A176_1, c176_1, A176_2, c176_2, A176_3, c176_3, e176, hx176_0, hx176_1, hx176_2, hx176_3, hl176_1, hi176_1, hl176_2, hi176_2, hl176_3, hi176_3⟩ := at_T26 HR0_3.out 1 p176 q176
  have hw176_3 := hx176_3
  rw [show ((1 : Int)).toNat = 1 from rfl] at hw176_3
  rw [show 1 * 4 = 4 from rfl] at hw176_3
  simp only [Nat.reduceMul, Nat.reduceEqDiff, Go.Addr.add, ↓reduceIte] at hw176_3
  have hw176_2 := hx176_2
  rw [show ((1 : Int)).toNat = 1 from rfl] at hw176_2
  rw [show 1 * 4 = 4 from rfl] at hw176_2
  simp only [Nat.reduceMul, Nat.reduceEqDiff, Go.Addr.add, ↓reduceIte] at hw176_2
  have hw176_1 := hx176_1
  rw [show ((1 : Int)).toNat = 1 from rfl] at hw176_1
  rw [show 1 * 4 = 4 from rfl] at hw176_1
  simp only [Nat.reduceMul, Nat.reduceEqDiff, Go.Addr.add, ↓reduceIte] at hw176_1
  have hw176_0 := hx176_0
  rw [show ((1 : Int)).toNat = 1 from rfl] at hw176_0
  rw [show 1 * 4 = 4 from rfl] at hw176_0
  simp only [Nat.reduceMul, Nat.reduceEqDiff, Go.Addr.add, ↓reduceIte] at hw176_0
  obtain rfl : ad174 = ad176 := (by injection e176)
  simp only [show (1 : Int).toNat = 1 from rfl, Nat.reduceMul, Nat.reduceEqDiff, Go.Addr.add, ↓reduceIte] at hx176_0
  simp only [show (1 : Int).toNat = 1 from rfl, Nat.reduceMul, Nat.reduceEqDiff, Go.Addr.add, ↓reduceIte] at hx176_1
  simp only [show (1 : Int).toNat = 1 from rfl, Nat.reduceMul, Nat.reduceEqDiff, Go.Addr.add, ↓reduceIte] at hx176_2
  simp only [show (1 : Int).toNat = 1 from rfl, Nat.reduceMul, Nat.reduceEqDiff, Go.Addr.add, ↓reduceIte] at hx176_3
  have qi176 : (1 < l0_3.length) = True := eq_true (by omega)
  replace hx176_0 := upc hx176_0
  replace hx176_1 := upc hx176_1
  replace hx176_2 := upc hx176_2
  replace hx176_3 := upc hx176_3
  have HR176_1 := Aside0.mk hi176_1
  have HC176_1 := Aside0.mk hl176_1
  clear hi176_1 hl176_1
  have HR176_2 := Aside0.mk hi176_2
  have HC176_2 := Aside0.mk hl176_2
  clear hi176_2 hl176_2
  have HR176_3 := Aside0.mk hi176_3
  have HC176_3 := Aside0.mk hl176_3
  clear hi176_3 hl176_3
  replace p176 := eq_true p176
  replace q176 := eq_true q176
  refine st (S := fun w' => w'.cell? ⟨gb121, 0, none⟩ = some (.int .i64 a0_0) ∧ w'.cell? ⟨gb121, 1, none⟩ = some (.slice A0_1 l0_1.length c0_1) ∧ w'.cell? ⟨gb121, 2, none⟩ = some (.slice A0_2 l0_2.length c0_2) ∧ w'.cell? ⟨gb121, 3, none⟩ = some (.slice (some ad174) l0_3.length c0_3) ∧ w'.cell? ad174 = some (.int .i64 ((rd_T26 l0_3 0).f0)) ∧ w'.cell? ⟨ad174.block, ad174.off + 1, none⟩ = some (.slice A174_1 ((rd_T26 l0_3 0).f1).length c174_1) ∧ w'.cell? ⟨ad174.block, ad174.off + 2, none⟩ = some (.slice A174_2 ((rd_T26 l0_3 0).f2).length c174_2) ∧ w'.cell? ⟨ad174.block, ad174.off + 3, none⟩ = some (.slice A174_3 ((rd_T26 l0_3 0).f3).length c174_3) ∧ w'.cell? ⟨ad174.block, ad174.off + 4, none⟩ = some (.int .i64 ((rd_T26 l0_3 1).f0)) ∧ w'.cell? ⟨ad174.block, ad174.off + 4 + 1, none⟩ = some (.slice A176_1 ((rd_T26 l0_3 1).f1).length c176_1) ∧ w'.cell? ⟨ad174.block, ad174.off + 4 + 2, none⟩ = some (.slice A176_2 ((rd_T26 l0_3 1).f2).length c176_2) ∧ w'.cell? ⟨ad174.block, ad174.off + 4 + 3, none⟩ = some (.slice A176_3 ((rd_T26 l0_3 1).f3).length c176_3)) (ds := []) (fun hHeld => ?_); refine with_tabW sched_at.tab39 sched_at.bits39 (fun HT_ HW_ => ?_)
  generalize w117.drew = w119 at BK121 HB HR174_1 HR174_2 HR174_3 HR176_1 HR176_2 HR176_3 hx174_0 hx174_1 hx174_2 hx174_3 hx176_0 hx176_1 hx176_2 hx176_3 hHeld ⊢
  refine pu (i := 0) (N := some 220) ?_
  refine pu (i := 4) (N := some 224) ?_
  refine pu (i := 6) (N := some 226) ?_
  refine pu (i := 10) (N := some 230) ?_
  refine tk (i := 1) (N := some 221) ?_
  refine pu (i := 2) (N := some 222) ?_
  refine tk (i := 3) (N := some 223) ?_
  refine tk (i := 7) (N := some 227) ?_
  refine pu (i := 8) (N := some 228) ?_
  refine tk (i := 9) (N := some 229) ?_
  refine on (i := 5) (N := some 225) (fun K hK => ?_)
  refine gB Tryd.func30 (ih k (by omega) ((rd_T26 l0_3 0).f0) _ _ ((rd_T26 l0_3 0).f1) _ _ ((rd_T26 l0_3 0).f2) _ _ ((rd_T26 l0_3 0).f3) a1 t175 _ (Wav.Lies.keep hl_ hbb) (cb HR174_1) HC174_1.out (cb HR174_2) HC174_2.out (cb HR174_3) HC174_3.out A113.out) (fun w120 hb => ?_)
  replace BK121 := bks BK121 hb
  replace HB := bst hb
  clear hb
  refine nx hK.out (fun hHeld => ?_)
  refine on (i := 11) (N := some 231) (fun K hK => ?_)
  refine gB Tryd.func30 (ih k (by omega) ((rd_T26 l0_3 1).f0) _ _ ((rd_T26 l0_3 1).f1) _ _ ((rd_T26 l0_3 1).f2) _ _ ((rd_T26 l0_3 1).f3) a1 t177 _ (Wav.Lies.keep hl_ hbb) (cb HR176_1) HC176_1.out (cb HR176_2) HC176_2.out (cb HR176_3) HC176_3.out A115.out) (fun w121 hb => ?_)
  replace BK121 := bks BK121 hb
  replace HB := bst hb
  clear hb
  refine nx hK.out (fun hHeld => ?_)
  refine on (i := 12) (N := some 232) (fun K hK => ?_)
  refine gA Tryd.func37 #[.int .u32 t175, .int .u32 t177] ?_
  with_reducible refine (float_Max.calls t175 t177 t178 _ A116.out).mono ?_
  rintro e w' ⟨rfl, ⟨nd, rfl⟩⟩
  refine ⟨_, rfl, ?_⟩
  refine nx hK.out (fun hHeld => ?_)
  refine pu (i := 13) (N := some 4) ?_
  refine done_ (done_of HT_.out (by kernel_rfl)) ?_
  try go_wp2
  go_ret
  exact fin_
 rw [if_neg c111] at H
 have c111b0 : (a0_0 == 11) = false := beq_eq_false_iff_ne.mpr c111
 have c111b1 : (a0_0 != 11) = true := bne_iff_ne.mpr c111
 by_cases c122 : a0_0 = 12
 ·rw [if_pos c122] at H
  have c122b0 : (a0_0 == 12) = true := beq_iff_eq.mpr c122
  have c122b1 : (a0_0 != 12) = false := bne_eq_false_iff_eq.mpr c122
  clear c122
  by_cases c123 : 0 < (l0_3.length : Int)
  rotate_left
  ·rw [if_neg c123] at H
   exact absurd H (by simp)
  rw [if_pos c123] at H
  have c123b0 := decide_eq_true c123
  have c123b1 : decide (0 < l0_3.length) = true := decide_eq_true (by omega)
  clear c123
  by_cases c124 : 0 < (l0_2.length : Int)
  rotate_left
  ·rw [if_neg c124] at H
   exact absurd H (by simp)
  rw [if_pos c124] at H
  have c124b0 := decide_eq_true c124
  have c124b1 : decide (0 < l0_2.length) = true := decide_eq_true (by omega)
  clear c124
  obtain ⟨ji125, hji125⟩ : ∃ j_ : Int, (mx (wrap64 (a1 - (rd l0_2 0))) 0) = j_ := ⟨_, rfl⟩
  first | rw [hji125] at H | simp only [hji125] at H
  (have hji125l : 0 ≤ ji125 := by (rw [← hji125]; unfold mx; (repeat' split) <;> omega))
  (have hji125m : 0 ≤ ji125 := by omega)
  have hji125_ : (if (wrap64 (a1 - (rd l0_2 0))) < 0 then 0 else (wrap64 (a1 - (rd l0_2 0)))) = ji125 := hji125
  replace H := Option.bind_eq_some_iff.mp H
  obtain ⟨t181, A1260, H⟩ := H
  have A126 := Aside0.mk A1260
  clear A1260
  obtain rfl := Option.some.inj H
  go_enter Tryd.func30, Tryd.ntmps30
  try go_wp2_with (first | ((with_reducible refine gate_dst (N := 2) rfl ?_); refine box_event ?hg (N := 2) ?hd (cs := #[.int .i64 a0_0, .slice A0_1 l0_1.length c0_1, .slice A0_2 l0_2.length c0_2, .slice A0_3 l0_3.length c0_3]) (t := 26) ?hr ?_; (case hd => rfl); (case hg => rfl); (case hr => first | (go_simp; done) | (go_simp; rfl)); intro gb121 hg w127 hbox hb; have BK121 := Aside0.mk (hbox); have GW121 := bsz (w := w) hg; have GE121 := bsz (w := w) hg; replace HB := bst hb; clear hb hbox hg; obtain ⟨_, _, _, _, _, _, _, _⟩ := bx4 BK121.out))
  replace BK121 := Aside0.mk (blk_drew BK121.out)
  replace HB := Aside0.mk (below_drew1 HB.out)
  have p179 : 0 ≤ (0 : Int) := (by omega)
  have q179 : 0 < (l0_3.length : Int) := of_decide_eq_true as_
  obtain ⟨ad179, A179_1, c179_1, A179_2, c179_2, A179_3, c179_3, e179, hx179_0, hx179_1, hx179_2, hx179_3, hl179_1, hi179_1, hl179_2, hi179_2, hl179_3, hi179_3⟩ := at_T26 HR0_3.out 0 p179 q179
  have hw179_3 := hx179_3
  rw [show ((0 : Int)).toNat = 0 from rfl] at hw179_3
  rw [show 0 * 4 = 0 from rfl] at hw179_3
  rw [Addr.add_zero'] at hw179_3
  have hw179_2 := hx179_2
  rw [show ((0 : Int)).toNat = 0 from rfl] at hw179_2
  rw [show 0 * 4 = 0 from rfl] at hw179_2
  rw [Addr.add_zero'] at hw179_2
  have hw179_1 := hx179_1
  rw [show ((0 : Int)).toNat = 0 from rfl] at hw179_1
  rw [show 0 * 4 = 0 from rfl] at hw179_1
  rw [Addr.add_zero'] at hw179_1
  have hw179_0 := hx179_0
  rw [show ((0 : Int)).toNat = 0 from rfl] at hw179_0
  rw [show 0 * 4 = 0 from rfl] at hw179_0
  rw [Addr.add_zero'] at hw179_0
  cases e179
  have qi179 : (0 < l0_3.length) = True := eq_true (by omega)
  rw [show ((0 : Int)).toNat = 0 from rfl] at hx179_0
  rw [show 0 * 4 = 0 from rfl] at hx179_0
  rw [Addr.add_zero'] at hx179_0
  rw [show ((0 : Int)).toNat = 0 from rfl] at hx179_1
  rw [show 0 * 4 = 0 from rfl] at hx179_1
  rw [Addr.add_zero'] at hx179_1
  rw [show ((0 : Int)).toNat = 0 from rfl] at hx179_2
  rw [show 0 * 4 = 0 from rfl] at hx179_2
  rw [Addr.add_zero'] at hx179_2
  rw [show ((0 : Int)).toNat = 0 from rfl] at hx179_3
  rw [show 0 * 4 = 0 from rfl] at hx179_3
  rw [Addr.add_zero'] at hx179_3
  replace hx179_0 := upc hx179_0
  replace hx179_1 := upc hx179_1
  replace hx179_2 := upc hx179_2
  replace hx179_3 := upc hx179_3
  have HR179_1 := Aside0.mk hi179_1
  have HC179_1 := Aside0.mk hl179_1
  clear hi179_1 hl179_1
  have HR179_2 := Aside0.mk hi179_2
  have HC179_2 := Aside0.mk hl179_2
  clear hi179_2 hl179_2
  have HR179_3 := Aside0.mk hi179_3
  have HC179_3 := Aside0.mk hl179_3
  clear hi179_3 hl179_3
  replace p179 := eq_true p179
  replace q179 := eq_true q179
  have p180 : 0 ≤ (0 : Int) := (by omega)
  have q180 : 0 < (l0_2.length : Int) := of_decide_eq_true as_
  obtain ⟨ad180, e180, hx180_0⟩ := Kd.at_int HR0_2.out 0 p180 q180
  have hw180_0 := hx180_0
  rw [show ((0 : Int)).toNat = 0 from rfl] at hw180_0
  rw [Addr.add_zero'] at hw180_0
  cases e180
  have qi180 : (0 < l0_2.length) = True := eq_true (by omega)
  rw [show ((0 : Int)).toNat = 0 from rfl] at hx180_0
  rw [Addr.add_zero'] at hx180_0
  replace hx180_0 := upc hx180_0
  replace p180 := eq_true p180
  replace q180 := eq_true q180
  refine st (S := fun w' => w'.cell? ⟨gb121, 0, none⟩ = some (.int .i64 a0_0) ∧ w'.cell? ⟨gb121, 1, none⟩ = some (.slice A0_1 l0_1.length c0_1) ∧ w'.cell? ⟨gb121, 2, none⟩ = some (.slice (some ad180) l0_2.length c0_2) ∧ w'.cell? ⟨gb121, 3, none⟩ = some (.slice (some ad179) l0_3.length c0_3) ∧ w'.cell? ad179 = some (.int .i64 ((rd_T26 l0_3 0).f0)) ∧ w'.cell? ⟨ad179.block, ad179.off + 1, none⟩ = some (.slice A179_1 ((rd_T26 l0_3 0).f1).length c179_1) ∧ w'.cell? ⟨ad179.block, ad179.off + 2, none⟩ = some (.slice A179_2 ((rd_T26 l0_3 0).f2).length c179_2) ∧ w'.cell? ⟨ad179.block, ad179.off + 3, none⟩ = some (.slice A179_3 ((rd_T26 l0_3 0).f3).length c179_3) ∧ w'.cell? ad180 = some (.int .i64 (rd l0_2 0))) (ds := []) (fun hHeld => ?_); refine with_tabW sched_at.tab41 sched_at.bits41 (fun HT_ HW_ => ?_)
  generalize w127.drew = w129 at BK121 HB HR179_1 HR179_2 HR179_3 hx179_0 hx179_1 hx179_2 hx179_3 hx180_0 hHeld ⊢
  refine pu (i := 0) (N := some 235) ?_
  refine pu (i := 4) (N := some 239) ?_
  refine pu (i := 5) (N := some 240) ?_
  refine tk (i := 1) (N := some 236) ?_
  refine pu (i := 2) (N := some 237) ?_
  refine tk (i := 3) (N := some 238) ?_
  refine tk (i := 6) (N := some 241) ?_
  refine pu (i := 7) (N := some 242) ?_
  refine tk (i := 8) (N := some 243) ?_
  refine pu (i := 9) (N := some 244) ?_
  refine pu (i := 10) (N := some 245) ?_
  refine on (i := 11) (N := some 246) (fun K hK => ?_)
  refine goes_ Tryd.func30 (by kernel_rfl) rfl #[.agg #[.int .i64 ((rd_T26 l0_3 0).f0), .slice A179_1 ((rd_T26 l0_3 0).f1).length c179_1, .slice A179_2 ((rd_T26 l0_3 0).f2).length c179_2, .slice A179_3 ((rd_T26 l0_3 0).f3).length c179_3], .int .i64 ji125] (by rfl) rfl rfl (by (try simp only [List.map_toArray, List.map_cons, List.map_nil]); first | done | (simp only [hji125]; rfl) | rfl | (simp only [List.length_drop, List.length_take]; rfl)) ?_
  with_reducible refine (ih k (by omega) ((rd_T26 l0_3 0).f0) _ _ ((rd_T26 l0_3 0).f1) _ _ ((rd_T26 l0_3 0).f2) _ _ ((rd_T26 l0_3 0).f3) ji125 t181 _ (Wav.Lies.keep hl_ hbb) (cb HR179_1) HC179_1.out (cb HR179_2) HC179_2.out (cb HR179_3) HC179_3.out A126.out).mono ?_
  rintro e w130 ⟨rfl, hb⟩
  refine ⟨_, rfl, ?_⟩
  replace BK121 := bks BK121 hb
  replace HB := bst hb
  clear hb
  refine nx hK.out (fun hHeld => ?_)
  refine pu (i := 12) (N := some 4) ?_
  refine done_ (done_of HT_.out (by kernel_rfl)) ?_
  try go_wp2
  go_ret
  exact ⟨by first | rfl | (simp [errW_none, errW_some] <;> rfl) | (simp only [← hji125]; first | rfl | (simp [errW_none, errW_some] <;> rfl)) | (simp [*, errW_none, errW_some] <;> rfl), by repeat (first | (with_reducible first | exact HB.out | apply below_alloc | apply pw_below_drewN | apply below_drew1 | refine below_set ?_ GE121.out) | exact HB.out)⟩
 rw [if_neg c122] at H
 have c122b0 : (a0_0 == 12) = false := beq_eq_false_iff_ne.mpr c122
 have c122b1 : (a0_0 != 12) = true := bne_iff_ne.mpr c122
 by_cases c131 : a0_0 = 13
 ·rw [if_pos c131] at H
  have c131b0 : (a0_0 == 13) = true := beq_iff_eq.mpr c131
  have c131b1 : (a0_0 != 13) = false := bne_eq_false_iff_eq.mpr c131
  clear c131
  by_cases c132 : 0 < (l0_3.length : Int)
  rotate_left
  ·rw [if_neg c132] at H
   exact absurd H (by simp)
  rw [if_pos c132] at H
  have c132b0 := decide_eq_true c132
  have c132b1 : decide (0 < l0_3.length) = true := decide_eq_true (by omega)
  clear c132
  by_cases c133 : 0 < (l0_2.length : Int)
  rotate_left
  ·rw [if_neg c133] at H
   exact absurd H (by simp)
  rw [if_pos c133] at H
  have c133b0 := decide_eq_true c133
  have c133b1 : decide (0 < l0_2.length) = true := decide_eq_true (by omega)
  clear c133
  obtain ⟨ji134, hji134⟩ : ∃ j_ : Int, (mn a1 (rd l0_2 0)) = j_ := ⟨_, rfl⟩
  first | rw [hji134] at H | simp only [hji134] at H
  have hji134_ : (if (rd l0_2 0) < a1 then (rd l0_2 0) else a1) = ji134 := hji134
  replace H := Option.bind_eq_some_iff.mp H
  obtain ⟨t184, A1350, H⟩ := H
  have A135 := Aside0.mk A1350
  clear A1350
  obtain rfl := Option.some.inj H
  go_enter Tryd.func30, Tryd.ntmps30
  try go_wp2_with (first | ((with_reducible refine gate_dst (N := 2) rfl ?_); refine box_event ?hg (N := 2) ?hd (cs := #[.int .i64 a0_0, .slice A0_1 l0_1.length c0_1, .slice A0_2 l0_2.length c0_2, .slice A0_3 l0_3.length c0_3]) (t := 26) ?hr ?_; (case hd => rfl); (case hg => rfl); (case hr => first | (go_simp; done) | (go_simp; rfl)); intro gb121 hg w136 hbox hb; have BK121 := Aside0.mk (hbox); have GW121 := bsz (w := w) hg; have GE121 := bsz (w := w) hg; replace HB := bst hb; clear hb hbox hg; obtain ⟨_, _, _, _, _, _, _, _⟩ := bx4 BK121.out))
  replace BK121 := Aside0.mk (blk_drew BK121.out)
  replace HB := Aside0.mk (below_drew1 HB.out)
  have p182 : 0 ≤ (0 : Int) := (by omega)
  have q182 : 0 < (l0_3.length : Int) := of_decide_eq_true as_
  obtain ⟨ad182, A182_1, c182_1, A182_2, c182_2, A182_3, c182_3, e182, hx182_0, hx182_1, hx182_2, hx182_3, hl182_1, hi182_1, hl182_2, hi182_2, hl182_3, hi182_3⟩ := at_T26 HR0_3.out 0 p182 q182
  have hw182_3 := hx182_3
  rw [show ((0 : Int)).toNat = 0 from rfl] at hw182_3
  rw [show 0 * 4 = 0 from rfl] at hw182_3
  rw [Addr.add_zero'] at hw182_3
  have hw182_2 := hx182_2
  rw [show ((0 : Int)).toNat = 0 from rfl] at hw182_2
  rw [show 0 * 4 = 0 from rfl] at hw182_2
  rw [Addr.add_zero'] at hw182_2
  have hw182_1 := hx182_1
  rw [show ((0 : Int)).toNat = 0 from rfl] at hw182_1
  rw [show 0 * 4 = 0 from rfl] at hw182_1
  rw [Addr.add_zero'] at hw182_1
  have hw182_0 := hx182_0
  rw [show ((0 : Int)).toNat = 0 from rfl] at hw182_0
  rw [show 0 * 4 = 0 from rfl] at hw182_0
  rw [Addr.add_zero'] at hw182_0
  cases e182
  have qi182 : (0 < l0_3.length) = True := eq_true (by omega)
  rw [show ((0 : Int)).toNat = 0 from rfl] at hx182_0
  rw [show 0 * 4 = 0 from rfl] at hx182_0
  rw [Addr.add_zero'] at hx182_0
  rw [show ((0 : Int)).toNat = 0 from rfl] at hx182_1
  rw [show 0 * 4 = 0 from rfl] at hx182_1
  rw [Addr.add_zero'] at hx182_1
  rw [show ((0 : Int)).toNat = 0 from rfl] at hx182_2
  rw [show 0 * 4 = 0 from rfl] at hx182_2
  rw [Addr.add_zero'] at hx182_2
  rw [show ((0 : Int)).toNat = 0 from rfl] at hx182_3
  rw [show 0 * 4 = 0 from rfl] at hx182_3
  rw [Addr.add_zero'] at hx182_3
  replace hx182_0 := upc hx182_0
  replace hx182_1 := upc hx182_1
  replace hx182_2 := upc hx182_2
  replace hx182_3 := upc hx182_3
  have HR182_1 := Aside0.mk hi182_1
  have HC182_1 := Aside0.mk hl182_1
  clear hi182_1 hl182_1
  have HR182_2 := Aside0.mk hi182_2
  have HC182_2 := Aside0.mk hl182_2
  clear hi182_2 hl182_2
  have HR182_3 := Aside0.mk hi182_3
  have HC182_3 := Aside0.mk hl182_3
  clear hi182_3 hl182_3
  replace p182 := eq_true p182
  replace q182 := eq_true q182
  have p183 : 0 ≤ (0 : Int) := (by omega)
  have q183 : 0 < (l0_2.length : Int) := of_decide_eq_true as_
  obtain ⟨ad183, e183, hx183_0⟩ := Kd.at_int HR0_2.out 0 p183 q183
  have hw183_0 := hx183_0
  rw [show ((0 : Int)).toNat = 0 from rfl] at hw183_0
  rw [Addr.add_zero'] at hw183_0
  cases e183
  have qi183 : (0 < l0_2.length) = True := eq_true (by omega)
  rw [show ((0 : Int)).toNat = 0 from rfl] at hx183_0
  rw [Addr.add_zero'] at hx183_0
  replace hx183_0 := upc hx183_0
  replace p183 := eq_true p183
  replace q183 := eq_true q183
  refine st (S := fun w' => w'.cell? ⟨gb121, 0, none⟩ = some (.int .i64 a0_0) ∧ w'.cell? ⟨gb121, 1, none⟩ = some (.slice A0_1 l0_1.length c0_1) ∧ w'.cell? ⟨gb121, 2, none⟩ = some (.slice (some ad183) l0_2.length c0_2) ∧ w'.cell? ⟨gb121, 3, none⟩ = some (.slice (some ad182) l0_3.length c0_3) ∧ w'.cell? ad182 = some (.int .i64 ((rd_T26 l0_3 0).f0)) ∧ w'.cell? ⟨ad182.block, ad182.off + 1, none⟩ = some (.slice A182_1 ((rd_T26 l0_3 0).f1).length c182_1) ∧ w'.cell? ⟨ad182.block, ad182.off + 2, none⟩ = some (.slice A182_2 ((rd_T26 l0_3 0).f2).length c182_2) ∧ w'.cell? ⟨ad182.block, ad182.off + 3, none⟩ = some (.slice A182_3 ((rd_T26 l0_3 0).f3).length c182_3) ∧ w'.cell? ad183 = some (.int .i64 (rd l0_2 0))) (ds := []) (fun hHeld => ?_); refine with_tabW sched_at.tab43 sched_at.bits43 (fun HT_ HW_ => ?_)
  generalize w136.drew = w138 at BK121 HB HR182_1 HR182_2 HR182_3 hx182_0 hx182_1 hx182_2 hx182_3 hx183_0 hHeld ⊢
  refine pu (i := 0) (N := some 249) ?_
  refine pu (i := 4) (N := some 253) ?_
  refine pu (i := 5) (N := some 254) ?_
  refine tk (i := 1) (N := some 250) ?_
  refine pu (i := 2) (N := some 251) ?_
  refine tk (i := 3) (N := some 252) ?_
  refine tk (i := 6) (N := some 255) ?_
  refine pu (i := 7) (N := some 256) ?_
  refine tk (i := 8) (N := some 257) ?_
  refine pu (i := 9) (N := some 258) ?_
  refine on (i := 10) (N := some 259) (fun K hK => ?_)
  refine goes_ Tryd.func30 (by kernel_rfl) rfl #[.agg #[.int .i64 ((rd_T26 l0_3 0).f0), .slice A182_1 ((rd_T26 l0_3 0).f1).length c182_1, .slice A182_2 ((rd_T26 l0_3 0).f2).length c182_2, .slice A182_3 ((rd_T26 l0_3 0).f3).length c182_3], .int .i64 ji134] (by rfl) rfl rfl (by (try simp only [List.map_toArray, List.map_cons, List.map_nil]); first | done | (simp only [hji134]; rfl) | rfl | (simp only [List.length_drop, List.length_take]; rfl)) ?_
  with_reducible refine (ih k (by omega) ((rd_T26 l0_3 0).f0) _ _ ((rd_T26 l0_3 0).f1) _ _ ((rd_T26 l0_3 0).f2) _ _ ((rd_T26 l0_3 0).f3) ji134 t184 _ (Wav.Lies.keep hl_ hbb) (cb HR182_1) HC182_1.out (cb HR182_2) HC182_2.out (cb HR182_3) HC182_3.out A135.out).mono ?_
  rintro e w139 ⟨rfl, hb⟩
  refine ⟨_, rfl, ?_⟩
  replace BK121 := bks BK121 hb
  replace HB := bst hb
  clear hb
  refine nx hK.out (fun hHeld => ?_)
  refine pu (i := 11) (N := some 4) ?_
  refine done_ (done_of HT_.out (by kernel_rfl)) ?_
  try go_wp2
  go_ret
  exact ⟨by first | rfl | (simp [errW_none, errW_some] <;> rfl) | (simp only [← hji134]; first | rfl | (simp [errW_none, errW_some] <;> rfl)) | (simp [*, errW_none, errW_some] <;> rfl), by repeat (first | (with_reducible first | exact HB.out | apply below_alloc | apply pw_below_drewN | apply below_drew1 | refine below_set ?_ GE121.out) | exact HB.out)⟩
 rw [if_neg c131] at H
 have c131b0 : (a0_0 == 13) = false := beq_eq_false_iff_ne.mpr c131
 have c131b1 : (a0_0 != 13) = true := bne_iff_ne.mpr c131
 by_cases c140 : a0_0 = 7
 rotate_left
 ·rw [if_neg c140] at H
  have c140b0 : (a0_0 == 7) = false := beq_eq_false_iff_ne.mpr c140
  have c140b1 : (a0_0 != 7) = true := bne_iff_ne.mpr c140
  by_cases c150 : 0 < (l0_1.length : Int)
  rotate_left
  ·rw [if_neg c150] at H
   exact absurd H (by simp)
  rw [if_pos c150] at H
  have c150b0 := decide_eq_true c150
  have c150b1 : decide (0 < l0_1.length) = true := decide_eq_true (by omega)
  clear c150
  replace H := Option.bind_eq_some_iff.mp H
  obtain ⟨t193, A1510, H⟩ := H
  have A151 := Aside0.mk A1510
  clear A1510
  obtain rfl := Option.some.inj H
  go_enter Tryd.func30, Tryd.ntmps30
  try go_wp2_with (first | ((with_reducible refine gate_dst (N := 2) rfl ?_); refine box_event ?hg (N := 2) ?hd (cs := #[.int .i64 a0_0, .slice A0_1 l0_1.length c0_1, .slice A0_2 l0_2.length c0_2, .slice A0_3 l0_3.length c0_3]) (t := 26) ?hr ?_; (case hd => rfl); (case hg => rfl); (case hr => first | (go_simp; done) | (go_simp; rfl)); intro gb121 hg w152 hbox hb; have BK121 := Aside0.mk (hbox); have GW121 := bsz (w := w) hg; have GE121 := bsz (w := w) hg; replace HB := bst hb; clear hb hbox hg; obtain ⟨_, _, _, _, _, _, _, _⟩ := bx4 BK121.out))
  replace BK121 := Aside0.mk (blk_drew BK121.out)
  replace HB := Aside0.mk (below_drew1 HB.out)
  have p191 : 0 ≤ (0 : Int) := (by omega)
  have q191 : 0 < (l0_1.length : Int) := of_decide_eq_true as_
  obtain ⟨ad191, e191, hx191_0⟩ := Kd.at_int HR0_1.out 0 p191 q191
  have hw191_0 := hx191_0
  rw [show ((0 : Int)).toNat = 0 from rfl] at hw191_0
  rw [Addr.add_zero'] at hw191_0
  cases e191
  have qi191 : (0 < l0_1.length) = True := eq_true (by omega)
  rw [show ((0 : Int)).toNat = 0 from rfl] at hx191_0
  rw [Addr.add_zero'] at hx191_0
  replace hx191_0 := upc hx191_0
  replace p191 := eq_true p191
  replace q191 := eq_true q191
  have p192 : 0 ≤ (0 : Int) := (by omega)
  have q192 : 0 < (l0_1.length : Int) := of_decide_eq_true as_
  obtain ⟨ad192, e192, hx192_0⟩ := Kd.at_int HR0_1.out 0 p192 q192
  have hw192_0 := hx192_0
  rw [show ((0 : Int)).toNat = 0 from rfl] at hw192_0
  rw [Addr.add_zero'] at hw192_0
  obtain rfl : ad191 = ad192 := (by injection e192)
  have qi192 : (0 < l0_1.length) = True := eq_true (by omega)
  rw [show ((0 : Int)).toNat = 0 from rfl] at hx192_0
  rw [Addr.add_zero'] at hx192_0
  replace hx192_0 := upc hx192_0
  replace p192 := eq_true p192
  replace q192 := eq_true q192
  refine st (S := fun w' => w'.cell? ⟨gb121, 0, none⟩ = some (.int .i64 a0_0) ∧ w'.cell? ⟨gb121, 1, none⟩ = some (.slice (some ad191) l0_1.length c0_1) ∧ w'.cell? ⟨gb121, 2, none⟩ = some (.slice A0_2 l0_2.length c0_2) ∧ w'.cell? ⟨gb121, 3, none⟩ = some (.slice A0_3 l0_3.length c0_3) ∧ w'.cell? ad191 = some (.int .u32 (rd l0_1 0)) ∧ w'.cell? ad191 = some (.int .u32 (rd l0_1 0))) (ds := []) (fun hHeld => ?_); refine with_tabW sched_at.tab46 sched_at.bits46 (fun HT_ HW_ => ?_)
  generalize w152.drew = w154 at BK121 HB hx191_0 hx192_0 hHeld ⊢
  refine pu (i := 0) (N := some 279) ?_
  refine pu (i := 4) (N := some 283) ?_
  refine tk (i := 1) (N := some 280) ?_
  refine pu (i := 2) (N := some 281) ?_
  refine tk (i := 3) (N := some 282) ?_
  refine tk (i := 5) (N := some 284) ?_
  refine pu (i := 6) (N := some 285) ?_
  refine tk (i := 7) (N := some 286) ?_
  refine on (i := 8) (N := some 287) (fun K hK => ?_)
  refine gA Tryd.func57 #[.int .u32 1065353216, .int .u32 (rd l0_1 0), .int .u32 (rd l0_1 0)] ?_
  with_reducible refine (float_Select.calls 1065353216 (rd l0_1 0) (rd l0_1 0) t193 _ A151.out).mono ?_
  rintro e w' ⟨rfl, ⟨nd, rfl⟩⟩
  refine ⟨_, rfl, ?_⟩
  refine nx hK.out (fun hHeld => ?_)
  refine pu (i := 9) (N := some 4) ?_
  refine done_ (done_of HT_.out (by kernel_rfl)) ?_
  try go_wp2
  go_ret
  exact fin_
 rw [if_pos c140] at H
 have c140b0 : (a0_0 == 7) = true := beq_iff_eq.mpr c140
 have c140b1 : (a0_0 != 7) = false := bne_eq_false_iff_eq.mpr c140
 clear c140
 by_cases c141 : 0 < (l0_1.length : Int)
 rotate_left
 ·rw [if_neg c141] at H
  exact absurd H (by simp)
 rw [if_pos c141] at H
 have c141b0 := decide_eq_true c141
 have c141b1 : decide (0 < l0_1.length) = true := decide_eq_true (by omega)
 clear c141
 by_cases c142 : 0 < (l0_2.length : Int)
 rotate_left
 ·rw [if_neg c142] at H
  exact absurd H (by simp)
 rw [if_pos c142] at H
 have c142b0 := decide_eq_true c142
 have c142b1 : decide (0 < l0_2.length) = true := decide_eq_true (by omega)
 clear c142
 obtain ⟨ji143, hji143⟩ : ∃ j_ : Int, (mx a1 (rd l0_2 0)) = j_ := ⟨_, rfl⟩
 first | rw [hji143] at H | simp only [hji143] at H
 have hji143_ : (if a1 < (rd l0_2 0) then (rd l0_2 0) else a1) = ji143 := hji143
 replace H := Option.bind_eq_some_iff.mp H
 obtain ⟨t188, A1440, H⟩ := H
 have A144 := Aside0.mk A1440
 clear A1440
 replace H := Option.bind_eq_some_iff.mp H
 obtain ⟨t189, A1450, H⟩ := H
 have A145 := Aside0.mk A1450
 clear A1450
 replace H := Option.bind_eq_some_iff.mp H
 obtain ⟨t190, A1460, H⟩ := H
 have A146 := Aside0.mk A1460
 clear A1460
 obtain rfl := Option.some.inj H
 go_enter Tryd.func30, Tryd.ntmps30
 try go_wp2_with (first | ((with_reducible refine gate_dst (N := 2) rfl ?_); refine box_event ?hg (N := 2) ?hd (cs := #[.int .i64 a0_0, .slice A0_1 l0_1.length c0_1, .slice A0_2 l0_2.length c0_2, .slice A0_3 l0_3.length c0_3]) (t := 26) ?hr ?_; (case hd => rfl); (case hg => rfl); (case hr => first | (go_simp; done) | (go_simp; rfl)); intro gb121 hg w147 hbox hb; have BK121 := Aside0.mk (hbox); have GW121 := bsz (w := w) hg; have GE121 := bsz (w := w) hg; replace HB := bst hb; clear hb hbox hg; obtain ⟨_, _, _, _, _, _, _, _⟩ := bx4 BK121.out))
 replace BK121 := Aside0.mk (blk_drew BK121.out)
 replace HB := Aside0.mk (below_drew1 HB.out)
 have p185 : 0 ≤ (0 : Int) := (by omega)
 have q185 : 0 < (l0_1.length : Int) := of_decide_eq_true as_
 obtain ⟨ad185, e185, hx185_0⟩ := Kd.at_int HR0_1.out 0 p185 q185
 have hw185_0 := hx185_0
 rw [show ((0 : Int)).toNat = 0 from rfl] at hw185_0
 rw [Addr.add_zero'] at hw185_0
 cases e185
 have qi185 : (0 < l0_1.length) = True := eq_true (by omega)
 rw [show ((0 : Int)).toNat = 0 from rfl] at hx185_0
 rw [Addr.add_zero'] at hx185_0
 replace hx185_0 := upc hx185_0
 replace p185 := eq_true p185
 replace q185 := eq_true q185
 have p186 : 0 ≤ (0 : Int) := (by omega)
 have q186 : 0 < (l0_2.length : Int) := of_decide_eq_true as_
 obtain ⟨ad186, e186, hx186_0⟩ := Kd.at_int HR0_2.out 0 p186 q186
 have hw186_0 := hx186_0
 rw [show ((0 : Int)).toNat = 0 from rfl] at hw186_0
 rw [Addr.add_zero'] at hw186_0
 cases e186
 have qi186 : (0 < l0_2.length) = True := eq_true (by omega)
 rw [show ((0 : Int)).toNat = 0 from rfl] at hx186_0
 rw [Addr.add_zero'] at hx186_0
 replace hx186_0 := upc hx186_0
 replace p186 := eq_true p186
 replace q186 := eq_true q186
 have p187 : 0 ≤ (0 : Int) := (by omega)
 have q187 : 0 < (l0_2.length : Int) := of_decide_eq_true as_
 obtain ⟨ad187, e187, hx187_0⟩ := Kd.at_int HR0_2.out 0 p187 q187
 have hw187_0 := hx187_0
 rw [show ((0 : Int)).toNat = 0 from rfl] at hw187_0
 rw [Addr.add_zero'] at hw187_0
 obtain rfl : ad186 = ad187 := (by injection e187)
 have qi187 : (0 < l0_2.length) = True := eq_true (by omega)
 rw [show ((0 : Int)).toNat = 0 from rfl] at hx187_0
 rw [Addr.add_zero'] at hx187_0
 replace hx187_0 := upc hx187_0
 replace p187 := eq_true p187
 replace q187 := eq_true q187
 refine st (S := fun w' => w'.cell? ⟨gb121, 0, none⟩ = some (.int .i64 a0_0) ∧ w'.cell? ⟨gb121, 1, none⟩ = some (.slice (some ad185) l0_1.length c0_1) ∧ w'.cell? ⟨gb121, 2, none⟩ = some (.slice (some ad186) l0_2.length c0_2) ∧ w'.cell? ⟨gb121, 3, none⟩ = some (.slice A0_3 l0_3.length c0_3) ∧ w'.cell? ad185 = some (.int .u32 (rd l0_1 0)) ∧ w'.cell? ad186 = some (.int .i64 (rd l0_2 0)) ∧ w'.cell? ad186 = some (.int .i64 (rd l0_2 0))) (ds := []) (fun hHeld => ?_); refine with_tabW sched_at.tab45 sched_at.bits45 (fun HT_ HW_ => ?_)
 generalize w147.drew = w149 at BK121 HB hx185_0 hx186_0 hx187_0 hHeld ⊢
 refine pu (i := 0) (N := some 262) ?_
 refine pu (i := 4) (N := some 266) ?_
 refine pu (i := 8) (N := some 270) ?_
 refine pu (i := 9) (N := some 271) ?_
 refine tk (i := 1) (N := some 263) ?_
 refine pu (i := 2) (N := some 264) ?_
 refine tk (i := 3) (N := some 265) ?_
 refine tk (i := 5) (N := some 267) ?_
 refine pu (i := 6) (N := some 268) ?_
 refine tk (i := 7) (N := some 269) ?_
 refine tk (i := 10) (N := some 272) ?_
 refine pu (i := 11) (N := some 273) ?_
 refine tk (i := 12) (N := some 274) ?_
 refine pu (i := 13) (N := some 275) ?_
 refine on (i := 14) (N := some 276) (fun K hK => ?_)
 refine goes_ Tryd.func54 (by kernel_rfl) rfl #[.int .i64 (rd l0_2 0), .int .i64 ji143] (by rfl) rfl rfl (by (try simp only [List.map_toArray, List.map_cons, List.map_nil]); first | done | (simp only [hji143]; rfl) | rfl | (simp only [List.length_drop, List.length_take]; rfl)) ?_
 with_reducible refine (sched_part.calls (rd l0_2 0) ji143 t188 _ A144.out).mono ?_
 rintro e w' ⟨rfl, ⟨nd, rfl⟩⟩
 refine ⟨_, rfl, ?_⟩
 refine nx hK.out (fun hHeld => ?_)
 refine on (i := 15) (N := some 277) (fun K hK => ?_)
 refine gA Tryd.func56 #[.int .u32 t188] ?_
 with_reducible refine (float_Sqrt.calls t188 t189 _ A145.out).mono ?_
 rintro e w' ⟨rfl, ⟨nd, rfl⟩⟩
 refine ⟨_, rfl, ?_⟩
 refine nx hK.out (fun hHeld => ?_)
 refine on (i := 16) (N := some 278) (fun K hK => ?_)
 refine gA Tryd.func40 #[.int .u32 (rd l0_1 0), .int .u32 t189] ?_
 with_reducible refine (float_Mul.calls (rd l0_1 0) t189 t190 _ A146.out).mono ?_
 rintro e w' ⟨rfl, ⟨nd, rfl⟩⟩
 refine ⟨_, rfl, ?_⟩
 refine nx hK.out (fun hHeld => ?_)
 refine pu (i := 17) (N := some 4) ?_
 refine done_ (done_of HT_.out (by kernel_rfl)) ?_
 try go_wp2
 go_ret
 exact ⟨by first | rfl | (simp [errW_none, errW_some] <;> rfl) | (simp only [← hji143]; first | rfl | (simp [errW_none, errW_some] <;> rfl)) | (simp [*, errW_none, errW_some] <;> rfl), by repeat (first | (with_reducible first | exact HB.out | apply below_alloc | apply pw_below_drewN | apply below_drew1 | refine below_set ?_ GE121.out) | exact HB.out)⟩

end Go.Proofs.YtmfladkimmnccaaDoor.PW
