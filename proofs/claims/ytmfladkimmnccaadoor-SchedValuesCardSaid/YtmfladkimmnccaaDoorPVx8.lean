/- The functions of the program that a statement reaches, as plain functions, and that the machine's calls do what these say. No condition. (Printed by a program.) -/
import Derived.Test.YtmfladkimmnccaaDoorPWx0
import Derived.Test.YtmfladkimmnccaaDoorPVx5
import Derived.Test.YtmfladkimmnccaaDoorPVx7
import Derived.Test.YtmfladkimmnccaaDoorWal
namespace Go.Proofs.YtmfladkimmnccaaDoor.PW
open Go.RowKit Go.Proofs.YtmfladkimmnccaaDoorW.PrintWords Go.Proofs.YtmfladkimmnccaaDoorW.PrintLast Go.Proofs.YtmfladkimmnccaaDoorW.PrintMore Go.Proofs.YtmfladkimmnccaaDoor.Sht
attribute [local go_sem] max2_int min2_int max_two min_two max_three min_three max_four min_four   -- for this text's walks alone
set_option linter.unusedVariables false
set_option linter.unusedSimpArgs false

/-! ### latheref14_count: function 35 -/
mutual
def latheref14_count.j0 : Nat → Int → Int → Bool → Int → List Int → List Int → List (S26) → Option (Int)
 | 0, _, _, _, _, _, _, _ => none
 | k + 1, x1, x2, x19, x296000, x296001, x296002, x296003 => if x19 = true then (some 4097) else (latheref14_count.l0 k x1 x2 1 0 x296000 x296001 x296002 x296003)
def latheref14_count.l0 : Nat → Int → Int → Int → Int → Int → List Int → List Int → List (S26) → Option (Int)
 | 0, _, _, _, _, _, _, _, _ => none
 | k + 1, x1, x2, x7, x8, x296000, x296001, x296002, x296003 => if x8 < (x296003.length : Int) then (if 0 ≤ x8 then ((latheref14_count.f k ((rd_T26 x296003 x8).f0) ((rd_T26 x296003 x8).f1) ((rd_T26 x296003 x8).f2) ((rd_T26 x296003 x8).f3) (wrap64 (x1 + 1)) (wrap64 (x2 - x7))).bind fun t298 => (if (wrap64 (x7 + t298)) > x2 then (some 4097) else (latheref14_count.l0 k x1 x2 (wrap64 (x7 + t298)) (wrap64 (x8 + 1)) x296000 x296001 x296002 x296003))) else (none)) else (some x7)
def latheref14_count.f : Nat → Int → List Int → List Int → List (S26) → Int → Int → Option (Int)
 | 0, _, _, _, _, _, _ => none
 | k + 1, a0_0, l0_1, l0_2, l0_3, a1, a2 => if a1 > 64 then (latheref14_count.j0 k a1 a2 true a0_0 l0_1 l0_2 l0_3) else (if a2 < 1 then (latheref14_count.j0 k a1 a2 true a0_0 l0_1 l0_2 l0_3) else ((latheref14_row.f k a0_0 l0_1 l0_2 l0_3).bind fun t296 => (latheref14_count.j0 k a1 a2 (!t296) a0_0 l0_1 l0_2 l0_3)))
end
theorem latheref14_count.mono_l : ∀ k, (∀ y0 y1 y2 y3 y4 y5, LeO (latheref14_count.f k y0 y1 y2 y3 y4 y5) (latheref14_count.f (k + 1) y0 y1 y2 y3 y4 y5)) ∧ (∀ y0 y1 y2 y3 y4 y5 y6, LeO (latheref14_count.j0 k y0 y1 y2 y3 y4 y5 y6) (latheref14_count.j0 (k + 1) y0 y1 y2 y3 y4 y5 y6)) ∧ (∀ y0 y1 y2 y3 y4 y5 y6 y7, LeO (latheref14_count.l0 k y0 y1 y2 y3 y4 y5 y6 y7) (latheref14_count.l0 (k + 1) y0 y1 y2 y3 y4 y5 y6 y7))
 | 0 => ⟨fun _ _ _ _ _ _ r h => by simp [latheref14_count.f] at h, fun _ _ _ _ _ _ _ r h => by simp [latheref14_count.j0] at h, fun _ _ _ _ _ _ _ _ r h => by simp [latheref14_count.l0] at h⟩
 | k + 1 => by
  obtain ⟨ih0, ih1, ih2⟩ := latheref14_count.mono_l k
  refine ⟨?_, ?_, ?_⟩ <;> intros <;> (first | unfold latheref14_count.f | unfold latheref14_count.j0 | unfold latheref14_count.l0)
  all_goals repeat' with_reducible first
   | exact ih0 _ _ _ _ _ _
   | exact ih1 _ _ _ _ _ _ _
   | exact ih2 _ _ _ _ _ _ _ _
   | exact latheref14_row.mono _ _ _ _ _
   | exact LeO.refl _
   | exact LeO.none _
   | refine LeO.ite ?_ ?_
   | refine LeO.bind ?_ (fun _ => ?_)
theorem latheref14_count.mono : ∀ a0 a1 a2 a3 a4 a5 k, LeO (latheref14_count.f k a0 a1 a2 a3 a4 a5) (latheref14_count.f (k + 1) a0 a1 a2 a3 a4 a5) := by
 intro a0 a1 a2 a3 a4 a5 k
 obtain ⟨ih0, ih1, ih2⟩ := latheref14_count.mono_l k
 exact ih0 a0 a1 a2 a3 a4 a5
set_option maxHeartbeats 8000000 in
set_option maxRecDepth 100000 in
theorem latheref14_count.calls (k : Nat) : ∀ (a0_0 : Int) (A0_1 : Option Addr) (c0_1 : Nat) (l0_1 : List Int) (A0_2 : Option Addr) (c0_2 : Nat) (l0_2 : List Int) (A0_3 : Option Addr) (c0_3 : Nat) (l0_3 : List (S26)) (a1 : Int) (a2 : Int) (r : Int) (w : World) (hr0_1 : Kd.C (Kd.int .u32) w A0_1 l0_1.length l0_1) (hc0_1 : l0_1.length ≤ c0_1) (hr0_2 : Kd.C (Kd.int .i64) w A0_2 l0_2.length l0_2) (hc0_2 : l0_2.length ≤ c0_2) (hr0_3 : Kd.C k26 w A0_3 l0_3.length l0_3) (hc0_3 : l0_3.length ≤ c0_3) (h : latheref14_count.f k a0_0 l0_1 l0_2 l0_3 a1 a2 = some r),
  Calls Tryd.prog 35 #[.agg #[.int .i64 a0_0, .slice A0_1 l0_1.length c0_1, .slice A0_2 l0_2.length c0_2, .slice A0_3 l0_3.length c0_3], .int .i64 a1, .int .i64 a2] w fun e w' => e = .returned (.int .i64 r) ∧ Below w.heap.size w w' := by
 induction k using Nat.strongRecOn with
 | _ k ih =>
 intro a0_0 A0_1 c0_1 l0_1 A0_2 c0_2 l0_2 A0_3 c0_3 l0_3 a1 a2 r w hr0_1 hc0_1 hr0_2 hc0_2 hr0_3 hc0_3 h
 cases k with
 | zero => exact absurd h (by simp [latheref14_count.f])
 | succ k =>
 simp only [latheref14_count.f] at h
 have hu26 := Tryd.underlying26
 have HR0_1 := Aside0.mk hr0_1
 have HC0_1 := Aside0.mk hc0_1
 clear hr0_1 hc0_1
 have HR0_2 := Aside0.mk hr0_2
 have HC0_2 := Aside0.mk hc0_2
 clear hr0_2 hc0_2
 have HR0_3 := Aside0.mk hr0_3
 have HC0_3 := Aside0.mk hc0_3
 clear hr0_3 hc0_3
 have HB := Aside0.mk (Below.refl w.heap.size w)
 have H : (if a1 > 64 then (latheref14_count.j0 k a1 a2 true a0_0 l0_1 l0_2 l0_3) else (if a2 < 1 then (latheref14_count.j0 k a1 a2 true a0_0 l0_1 l0_2 l0_3) else ((latheref14_row.f k a0_0 l0_1 l0_2 l0_3).bind fun t296 => (latheref14_count.j0 k a1 a2 (!t296) a0_0 l0_1 l0_2 l0_3)))) = some r := h
 clear h
 have HC4 := Aside0.mk H
 clear H
 go_enter Tryd.func35, Tryd.ntmps35
 go_upto_region 1 with (first | ((with_reducible refine gate_dst (N := 3) rfl ?_); refine box_event ?hg (N := 3) ?hd (cs := #[.int .i64 a0_0, .slice A0_1 l0_1.length c0_1, .slice A0_2 l0_2.length c0_2, .slice A0_3 l0_3.length c0_3]) (t := 26) ?hr ?_; (case hd => rfl); (case hg => rfl); (case hr => first | (go_simp; done) | (go_simp; rfl)); intro gb295 hg w5 hbox hb; have BK295 := Aside0.mk (hbox); have GW295 := bsz (w := w) hg; have GE295 := bsz (w := w) hg; replace HB := bst hb; clear hb hbox hg))
 go_cut [19] (fun v19 wc => ∃ (kq : Nat) (x19_3 : Bool), v19 = .bool x19_3 ∧ Aside0 (latheref14_count.j0 kq a1 a2 x19_3 a0_0 l0_1 l0_2 l0_3 = some r) ∧ Aside0 (kq ≤ k) ∧ Aside0 (wc.heap[gb295]? = some (.cells #[.int .i64 a0_0, (.slice A0_1 l0_1.length c0_1), (.slice A0_2 l0_2.length c0_2), (.slice A0_3 l0_3.length c0_3)] 26 (0, 0))) ∧ Aside0 (Below w.heap.size w wc))
 case first =>
  have H := HC4.out
  clear HC4
  by_cases c6 : a1 > 64
  ·rw [if_pos c6] at H
   have c6b0 : decide (64 < a1) = true := decide_eq_true c6
   clear c6
   (first | rw [c6b0] | (simp only [i64_w, i32_w]; rw [c6b0]) | skip)
   have H' := Aside0.mk H
   clear H
   go_wp2
   go_meet
   case rel => exact ⟨_, (true), id_, H', ⟨by first | omega | exact Nat.le_refl _⟩, ⟨bkk⟩, ⟨hbb⟩⟩
  rw [if_neg c6] at H
  have c6b0 : decide (64 < a1) = false := decide_eq_false c6
  clear c6
  (first | rw [c6b0] | (simp only [i64_w, i32_w]; rw [c6b0]) | skip)
  by_cases c7 : a2 < 1
  ·rw [if_pos c7] at H
   have c7b0 := decide_eq_true c7
   clear c7
   have H' := Aside0.mk H
   clear H
   go_wp2
   go_meet
   case rel => exact ⟨_, (true), id_, H', ⟨by first | omega | exact Nat.le_refl _⟩, ⟨bkk⟩, ⟨hbb⟩⟩
  rw [if_neg c7] at H
  have c7b0 := decide_eq_false c7
  clear c7
  replace H := Option.bind_eq_some_iff.mp H
  obtain ⟨t296, A80, H⟩ := H
  have A8 := Aside0.mk A80
  clear A80
  have H' := Aside0.mk H
  clear H
  obtain ⟨_, _, _, _, _, _, _, _⟩ := bx4 BK295.out
  go_wp2_with (first | (go_at_call 68; (with_reducible refine (latheref14_row.calls k a0_0 _ _ l0_1 _ _ l0_2 _ _ l0_3 t296 _ (cb HR0_1) HC0_1.out (cb HR0_2) HC0_2.out (cb HR0_3) HC0_3.out A8.out).mono ?_); clear A8; rintro e w10 ⟨rfl, hb⟩; replace BK295 := bks BK295 hb; replace HB := bst hb; (try clear hb)))
  go_meet
  case rel => exact ⟨_, (!t296), id_, H', ⟨by first | omega | exact Nat.le_refl _⟩, ⟨bkk⟩, ⟨hbb⟩⟩
 case rest =>
  clear HC4
  obtain ⟨kq, x19_3, rfl, HA, HJ3, BK295, HB⟩ := hcut
  cases kq with
  | zero => exact absurd HA.out (by simp [latheref14_count.j0])
  | succ kj3 =>
   have H := HA.out
   clear HA
   simp only [latheref14_count.j0] at H
   by_cases c11 : x19_3 = true
   ·subst c11
    rw [if_pos rfl] at H
    obtain rfl := Option.some.inj H
    go_wp2
    go_ret
    exact fin_
   replace c11 := Bool.eq_false_iff.mpr c11
   subst c11
   rw [if_neg (show ¬ (false = true) by decide)] at H
   have H' := Aside0.mk H
   clear H
   go_wp2
   go_loopg [7, 8] kj3 (fun kq v7 v8 w' => ∃ (x7_2 : Int) (x8_2 : Int), v7 = .int .i64 x7_2 ∧ v8 = .int .i64 x8_2 ∧ Aside0 (latheref14_count.l0 kq a1 a2 x7_2 x8_2 a0_0 l0_1 l0_2 l0_3 = some r) ∧ Aside0 (kq ≤ kj3) ∧ Aside0 (w'.heap[gb295]? = some (.cells #[.int .i64 a0_0, (.slice A0_1 l0_1.length c0_1), (.slice A0_2 l0_2.length c0_2), (.slice A0_3 l0_3.length c0_3)] 26 (0, 0))) ∧ Aside0 (Below w.heap.size w w'))
   case atStart => exact ⟨(1), (0), id_, id_, H', ⟨Nat.le_refl _⟩, ⟨bkk⟩, ⟨hbb⟩⟩
   case round =>
    clear H'
    obtain ⟨x7_2, x8_2, rfl, rfl, HA, HK2, BK295, HB⟩ := hrel
    cases gk with
    | zero => exact absurd HA.out (by simp [latheref14_count.l0])
    | succ k2 =>
     have H := HA.out
     clear HA
     simp only [latheref14_count.l0] at H
     by_cases c12 : x8_2 < (l0_3.length : Int)
     rotate_left
     ·rw [if_neg c12] at H
      have c12b0 := decide_eq_false c12
      clear c12
      obtain rfl := Option.some.inj H
      obtain ⟨_, _, _, _, _, _, _, _⟩ := bx4 BK295.out
      go_wp2
      go_ret
      exact fin_
     rw [if_pos c12] at H
     have c12b0 := decide_eq_true c12
     clear c12
     by_cases c13 : 0 ≤ x8_2
     rotate_left
     ·rw [if_neg c13] at H
      exact absurd H (by simp)
     rw [if_pos c13] at H
     have c13b0 := decide_eq_true c13
     clear c13
     replace H := Option.bind_eq_some_iff.mp H
     obtain ⟨t298, A140, H⟩ := H
     have A14 := Aside0.mk A140
     clear A140
     by_cases c15 : (wrap64 (x7_2 + t298)) > a2
     ·rw [if_pos c15] at H
      have c15b0 : decide (a2 < (wrap64 (x7_2 + t298))) = true := decide_eq_true c15
      clear c15
      obtain rfl := Option.some.inj H
      obtain ⟨_, _, _, _, _, _, _, _⟩ := bx4 BK295.out
      have p297 : 0 ≤ (x8_2 : Int) := of_decide_eq_true as_
      have q297 : x8_2 < (l0_3.length : Int) := of_decide_eq_true as_
      obtain ⟨ad297, A297_1, c297_1, A297_2, c297_2, A297_3, c297_3, e297, hx297_0, hx297_1, hx297_2, hx297_3, hl297_1, hi297_1, hl297_2, hi297_2, hl297_3, hi297_3⟩ := at_T26 HR0_3.out x8_2 p297 q297
      cases e297
      replace hx297_0 := upc hx297_0
      replace hx297_1 := upc hx297_1
      replace hx297_2 := upc hx297_2
      replace hx297_3 := upc hx297_3
      have HR297_1 := Aside0.mk hi297_1
      have HC297_1 := Aside0.mk hl297_1
      clear hi297_1 hl297_1
      have HR297_2 := Aside0.mk hi297_2
      have HC297_2 := Aside0.mk hl297_2
      clear hi297_2 hl297_2
      have HR297_3 := Aside0.mk hi297_3
      have HC297_3 := Aside0.mk hl297_3
      clear hi297_3 hl297_3
      replace p297 := eq_true p297
      replace q297 := eq_true q297
      go_wp2_with (first | ((with_reducible refine gate_callee (f := 35) rfl ?_); refine gL (some 38) Tryd.func35 #[.agg #[.int .i64 ((rd_T26 l0_3 x8_2).f0), .slice A297_1 ((rd_T26 l0_3 x8_2).f1).length c297_1, .slice A297_2 ((rd_T26 l0_3 x8_2).f2).length c297_2, .slice A297_3 ((rd_T26 l0_3 x8_2).f3).length c297_3], .int .i64 (wrap64 (a1 + 1)), .int .i64 (wrap64 (a2 - x7_2))] ?_; (with_reducible refine (ih k2 (by have := HJ3.out; have := HK2.out; omega) ((rd_T26 l0_3 x8_2).f0) _ _ ((rd_T26 l0_3 x8_2).f1) _ _ ((rd_T26 l0_3 x8_2).f2) _ _ ((rd_T26 l0_3 x8_2).f3) (wrap64 (a1 + 1)) (wrap64 (a2 - x7_2)) t298 _ ?side1 ?side2 ?side3 ?side4 ?side5 ?side6 A14.out).mono ?_); (case side1 => exact cb HR297_1); (case side2 => exact HC297_1.out); (case side3 => exact cb HR297_2); (case side4 => exact HC297_2.out); (case side5 => exact cb HR297_3); (case side6 => exact HC297_3.out); rintro e w17 ⟨rfl, hb⟩; refine ⟨_, rfl, ?_⟩; replace BK295 := bks BK295 hb; replace HB := bst hb; (try clear hb)))
      go_ret
      exact fin_
     rw [if_neg c15] at H
     have c15b0 : decide (a2 < (wrap64 (x7_2 + t298))) = false := decide_eq_false c15
     clear c15
     have H' := Aside0.mk H
     clear H
     obtain ⟨_, _, _, _, _, _, _, _⟩ := bx4 BK295.out
     have p297 : 0 ≤ (x8_2 : Int) := of_decide_eq_true as_
     have q297 : x8_2 < (l0_3.length : Int) := of_decide_eq_true as_
     obtain ⟨ad297, A297_1, c297_1, A297_2, c297_2, A297_3, c297_3, e297, hx297_0, hx297_1, hx297_2, hx297_3, hl297_1, hi297_1, hl297_2, hi297_2, hl297_3, hi297_3⟩ := at_T26 HR0_3.out x8_2 p297 q297
     cases e297
     replace hx297_0 := upc hx297_0
     replace hx297_1 := upc hx297_1
     replace hx297_2 := upc hx297_2
     replace hx297_3 := upc hx297_3
     have HR297_1 := Aside0.mk hi297_1
     have HC297_1 := Aside0.mk hl297_1
     clear hi297_1 hl297_1
     have HR297_2 := Aside0.mk hi297_2
     have HC297_2 := Aside0.mk hl297_2
     clear hi297_2 hl297_2
     have HR297_3 := Aside0.mk hi297_3
     have HC297_3 := Aside0.mk hl297_3
     clear hi297_3 hl297_3
     replace p297 := eq_true p297
     replace q297 := eq_true q297
     go_wp2_with (first | ((with_reducible refine gate_callee (f := 35) rfl ?_); refine gL (some 38) Tryd.func35 #[.agg #[.int .i64 ((rd_T26 l0_3 x8_2).f0), .slice A297_1 ((rd_T26 l0_3 x8_2).f1).length c297_1, .slice A297_2 ((rd_T26 l0_3 x8_2).f2).length c297_2, .slice A297_3 ((rd_T26 l0_3 x8_2).f3).length c297_3], .int .i64 (wrap64 (a1 + 1)), .int .i64 (wrap64 (a2 - x7_2))] ?_; (with_reducible refine (ih k2 (by have := HJ3.out; have := HK2.out; omega) ((rd_T26 l0_3 x8_2).f0) _ _ ((rd_T26 l0_3 x8_2).f1) _ _ ((rd_T26 l0_3 x8_2).f2) _ _ ((rd_T26 l0_3 x8_2).f3) (wrap64 (a1 + 1)) (wrap64 (a2 - x7_2)) t298 _ ?side1 ?side2 ?side3 ?side4 ?side5 ?side6 A14.out).mono ?_); (case side1 => exact cb HR297_1); (case side2 => exact HC297_1.out); (case side3 => exact cb HR297_2); (case side4 => exact HC297_2.out); (case side5 => exact cb HR297_3); (case side6 => exact HC297_3.out); rintro e w19 ⟨rfl, hb⟩; refine ⟨_, rfl, ?_⟩; replace BK295 := bks BK295 hb; replace HB := bst hb; (try clear hb)))
     go_roundg k2
     case measure => have := HJ3.out; have := HK2.out; omega
     case rel => exact ⟨(wrap64 (x7_2 + t298)), (wrap64 (x8_2 + 1)), id_, id_, H', ⟨by have := HJ3.out; have := HK2.out; omega⟩, ⟨bkk⟩, ⟨hbb⟩⟩

/-! ### latheref14_Check: function 16 -/
def latheref14_Check.f (k : Nat) (a0_0 : Int) (l0_1 : List Int) (l0_2 : List Int) (l0_3 : List (S26)) : Option (Int) := (latheref14_count.f k a0_0 l0_1 l0_2 l0_3 1 4096).bind fun t300 => (if t300 > 4096 then (some 1) else (some 0))
theorem latheref14_Check.mono : ∀ a0 a1 a2 a3 k, LeO (latheref14_Check.f k a0 a1 a2 a3) (latheref14_Check.f (k + 1) a0 a1 a2 a3) := by
 intro a0 a1 a2 a3 k
 unfold latheref14_Check.f
 repeat' with_reducible first
  | exact latheref14_count.mono _ _ _ _ _ _ _
  | exact LeO.refl _
  | exact LeO.none _
  | refine LeO.ite ?_ ?_
  | refine LeO.bind ?_ (fun _ => ?_)
set_option maxHeartbeats 8000000 in
set_option maxRecDepth 100000 in
theorem latheref14_Check.calls (k : Nat) (a0_0 : Int) (A0_1 : Option Addr) (c0_1 : Nat) (l0_1 : List Int) (A0_2 : Option Addr) (c0_2 : Nat) (l0_2 : List Int) (A0_3 : Option Addr) (c0_3 : Nat) (l0_3 : List (S26)) (r : Int) (w : World) (hr0_1 : Kd.C (Kd.int .u32) w A0_1 l0_1.length l0_1) (hc0_1 : l0_1.length ≤ c0_1) (hr0_2 : Kd.C (Kd.int .i64) w A0_2 l0_2.length l0_2) (hc0_2 : l0_2.length ≤ c0_2) (hr0_3 : Kd.C k26 w A0_3 l0_3.length l0_3) (hc0_3 : l0_3.length ≤ c0_3) (h : latheref14_Check.f k a0_0 l0_1 l0_2 l0_3 = some r) :
  Calls Tryd.prog 16 #[.agg #[.int .i64 a0_0, .slice A0_1 l0_1.length c0_1, .slice A0_2 l0_2.length c0_2, .slice A0_3 l0_3.length c0_3]] w fun e w' => e = .returned (.int .i64 r) ∧ Below w.heap.size w w' := by
 have hu26 := Tryd.underlying26
 have HR0_1 := Aside0.mk hr0_1
 have HC0_1 := Aside0.mk hc0_1
 clear hr0_1 hc0_1
 have HR0_2 := Aside0.mk hr0_2
 have HC0_2 := Aside0.mk hc0_2
 clear hr0_2 hc0_2
 have HR0_3 := Aside0.mk hr0_3
 have HC0_3 := Aside0.mk hc0_3
 clear hr0_3 hc0_3
 have HB := Aside0.mk (Below.refl w.heap.size w)
 have H : ((latheref14_count.f k a0_0 l0_1 l0_2 l0_3 1 4096).bind fun t300 => (if t300 > 4096 then (some 1) else (some 0))) = some r := h
 clear h
 replace H := Option.bind_eq_some_iff.mp H
 obtain ⟨t300, A20, H⟩ := H
 have A2 := Aside0.mk A20
 clear A20
 by_cases c3 : t300 > 4096
 ·rw [if_pos c3] at H
  have c3b0 : decide (4096 < t300) = true := decide_eq_true c3
  clear c3
  obtain rfl := Option.some.inj H
  go_enter Tryd.func16, Tryd.ntmps16
  go_wp2_with (first | ((with_reducible refine gate_dst (N := 1) rfl ?_); refine box_event ?hg (N := 1) ?hd (cs := #[.int .i64 a0_0, .slice A0_1 l0_1.length c0_1, .slice A0_2 l0_2.length c0_2, .slice A0_3 l0_3.length c0_3]) (t := 26) ?hr ?_; (case hd => rfl); (case hg => rfl); (case hr => first | (go_simp; done) | (go_simp; rfl)); intro gb299 hg w4 hbox hb; have BK299 := Aside0.mk (hbox); have GW299 := bsz (w := w) hg; have GE299 := bsz (w := w) hg; replace HB := bst hb; clear hb hbox hg; obtain ⟨_, _, _, _, _, _, _, _⟩ := bx4 BK299.out) | ((with_reducible refine gate_callee (f := 35) rfl ?_); refine gC (some 4) Tryd.func35 (latheref14_count.calls k a0_0 _ _ l0_1 _ _ l0_2 _ _ l0_3 1 4096 t300 _ (cb HR0_1) HC0_1.out (cb HR0_2) HC0_2.out (cb HR0_3) HC0_3.out A2.out) (fun w6 hb => ?_); clear A2; replace BK299 := bks BK299 hb; replace HB := bst hb; (try clear hb)))
  go_ret
  exact fin_
 rw [if_neg c3] at H
 have c3b0 : decide (4096 < t300) = false := decide_eq_false c3
 clear c3
 obtain rfl := Option.some.inj H
 go_enter Tryd.func16, Tryd.ntmps16
 go_wp2_with (first | ((with_reducible refine gate_dst (N := 1) rfl ?_); refine box_event ?hg (N := 1) ?hd (cs := #[.int .i64 a0_0, .slice A0_1 l0_1.length c0_1, .slice A0_2 l0_2.length c0_2, .slice A0_3 l0_3.length c0_3]) (t := 26) ?hr ?_; (case hd => rfl); (case hg => rfl); (case hr => first | (go_simp; done) | (go_simp; rfl)); intro gb299 hg w7 hbox hb; have BK299 := Aside0.mk (hbox); have GW299 := bsz (w := w) hg; have GE299 := bsz (w := w) hg; replace HB := bst hb; clear hb hbox hg; obtain ⟨_, _, _, _, _, _, _, _⟩ := bx4 BK299.out) | ((with_reducible refine gate_callee (f := 35) rfl ?_); refine gC (some 4) Tryd.func35 (latheref14_count.calls k a0_0 _ _ l0_1 _ _ l0_2 _ _ l0_3 1 4096 t300 _ (cb HR0_1) HC0_1.out (cb HR0_2) HC0_2.out (cb HR0_3) HC0_3.out A2.out) (fun w9 hb => ?_); clear A2; replace BK299 := bks BK299 hb; replace HB := bst hb; (try clear hb)))
 go_ret
 exact fin_

/-! ### latheref02_Neg: function 23 -/
def latheref02_Neg.f (a0 : Int) : Option (Int) := (latheref02_Of.f a0).bind fun bt301 => (if bt301.2.2.2.2 = true then (some 2143289344) else (some (Go.bits .xor .i64 a0 2147483648)))
set_option maxHeartbeats 8000000 in
set_option maxRecDepth 100000 in
theorem latheref02_Neg.calls (a0 : Int) (r : Int) (w : World) (h : latheref02_Neg.f a0 = some r) :
  Calls Tryd.prog 23 #[.int .i64 a0] w fun e w' => e = .returned (.int .i64 r) ∧ Below w.heap.size w w' := by
 have hu62 := Tryd.underlying62
 have HB := Aside0.mk (Below.refl w.heap.size w)
 have H : ((latheref02_Of.f a0).bind fun bt301 => (if bt301.2.2.2.2 = true then (some 2143289344) else (some (Go.bits .xor .i64 a0 2147483648)))) = some r := h
 clear h
 replace H := Option.bind_eq_some_iff.mp H
 obtain ⟨⟨t301, t302, t303, t304, t305⟩, A20, H⟩ := H
 have A2 := Aside0.mk A20
 clear A20
 by_cases c3 : t305 = true
 ·subst c3
  rw [if_pos rfl] at H
  obtain rfl := Option.some.inj H
  go_enter Tryd.func23, Tryd.ntmps23
  go_wp2_with (first | ((with_reducible refine gate_callee (f := 47) rfl ?_); refine gC (some 4) Tryd.func47 (latheref02_Of.calls a0 t301 t302 t303 t304 true _ A2.out) (fun w4 hb => ?_); clear A2; replace HB := bst hb; (try clear hb)))
  go_ret
  exact fin_
 replace c3 := Bool.eq_false_iff.mpr c3
 subst c3
 rw [if_neg (show ¬ (false = true) by decide)] at H
 obtain rfl := Option.some.inj H
 go_enter Tryd.func23, Tryd.ntmps23
 go_wp2_with (first | ((with_reducible refine gate_callee (f := 47) rfl ?_); refine gC (some 4) Tryd.func47 (latheref02_Of.calls a0 t301 t302 t303 t304 false _ A2.out) (fun w5 hb => ?_); clear A2; replace HB := bst hb; (try clear hb)))
 go_ret
 exact fin_

/-! ### latheref02_sign: function 71 -/
def latheref02_sign.f (a0 : Bool) : Option (Int) := if a0 = true then (some 2147483648) else (some 0)
set_option maxHeartbeats 8000000 in
set_option maxRecDepth 100000 in
theorem latheref02_sign.calls (a0 : Bool) (r : Int) (w : World) (h : latheref02_sign.f a0 = some r) :
  Calls Tryd.prog 71 #[.bool a0] w fun e w' => e = .returned (.int .u64 r) ∧ Drawn0 w w' := by
 have H : (if a0 = true then (some 2147483648) else (some 0)) = some r := h
 clear h
 by_cases c2 : a0 = true
 ·subst c2
  rw [if_pos rfl] at H
  obtain rfl := Option.some.inj H
  go_enter Tryd.func71, Tryd.ntmps71
  go_wp2
  go_ret
  exact ⟨by first | rfl | (simp; done) | (simp [*]; done), by repeat (first | exact Drawn0.refl _ | apply Drawn0.step)⟩
 replace c2 := Bool.eq_false_iff.mpr c2
 subst c2
 rw [if_neg (show ¬ (false = true) by decide)] at H
 obtain rfl := Option.some.inj H
 go_enter Tryd.func71, Tryd.ntmps71
 go_wp2
 go_ret
 exact ⟨by first | rfl | (simp; done) | (simp [*]; done), by repeat (first | exact Drawn0.refl _ | apply Drawn0.step)⟩

/-! ### latheref02_infinite: function 50 -/
def latheref02_infinite.f (a0 : Bool) : Option (Int) := (latheref02_sign.f a0).bind fun t306 => (some (wrap64 (IntKind.u64.wrap (t306 + 2139095040))))
set_option maxHeartbeats 8000000 in
set_option maxRecDepth 100000 in
theorem latheref02_infinite.calls (a0 : Bool) (r : Int) (w : World) (h : latheref02_infinite.f a0 = some r) :
  Calls Tryd.prog 50 #[.bool a0] w fun e w' => e = .returned (.int .i64 r) ∧ Drawn0 w w' := by
 have H : ((latheref02_sign.f a0).bind fun t306 => (some (wrap64 (IntKind.u64.wrap (t306 + 2139095040))))) = some r := h
 clear h
 replace H := Option.bind_eq_some_iff.mp H
 obtain ⟨t306, A20, H⟩ := H
 have A2 := Aside0.mk A20
 clear A20
 obtain rfl := Option.some.inj H
 go_enter Tryd.func50, Tryd.ntmps50
 go_wp2_with (first | ((with_reducible refine gate_callee (f := 71) rfl ?_); refine gL (some 4) Tryd.func71 #[.bool a0] ?_; (with_reducible refine (latheref02_sign.calls a0 t306 _ A2.out).mono ?_); clear A2; rintro e w' ⟨rfl, ⟨nd, rfl⟩⟩; refine ⟨_, rfl, ?_⟩))
 go_ret
 exact ⟨by first | rfl | (simp; done) | (simp [*]; done), by repeat (first | exact Drawn0.refl _ | apply Drawn0.step)⟩

/-! ### latheref02_zero: function 51 -/
def latheref02_zero.f (a0 : Bool) : Option (Int) := (latheref02_sign.f a0).bind fun t307 => (some (wrap64 (t307)))
set_option maxHeartbeats 8000000 in
set_option maxRecDepth 100000 in
theorem latheref02_zero.calls (a0 : Bool) (r : Int) (w : World) (h : latheref02_zero.f a0 = some r) :
  Calls Tryd.prog 51 #[.bool a0] w fun e w' => e = .returned (.int .i64 r) ∧ Drawn0 w w' := by
 have H : ((latheref02_sign.f a0).bind fun t307 => (some (wrap64 (t307)))) = some r := h
 clear h
 replace H := Option.bind_eq_some_iff.mp H
 obtain ⟨t307, A20, H⟩ := H
 have A2 := Aside0.mk A20
 clear A20
 obtain rfl := Option.some.inj H
 go_enter Tryd.func51, Tryd.ntmps51
 go_wp2_with (first | ((with_reducible refine gate_callee (f := 71) rfl ?_); refine gL (some 4) Tryd.func71 #[.bool a0] ?_; (with_reducible refine (latheref02_sign.calls a0 t307 _ A2.out).mono ?_); clear A2; rintro e w' ⟨rfl, ⟨nd, rfl⟩⟩; refine ⟨_, rfl, ?_⟩))
 go_ret
 exact ⟨by first | rfl | (simp; done) | (simp [*]; done), by repeat (first | exact Drawn0.refl _ | apply Drawn0.step)⟩

/-! ### latheref02_length: function 72 -/
def latheref02_length.l0 : Nat → Int → Int → Option (Int)
 | 0, _, _ => none
 | k + 1, x0, x3 => if x0 > 0 then (latheref02_length.l0 k (x0 / 2) (wrap64 (x3 + 1))) else (some x3)
def latheref02_length.f (k : Nat) (a0 : Int) : Option (Int) := latheref02_length.l0 k a0 0
theorem latheref02_length.mono_l : ∀ k, (∀ y0 y1, LeO (latheref02_length.l0 k y0 y1) (latheref02_length.l0 (k + 1) y0 y1))
 | 0 => fun _ _ r h => by simp [latheref02_length.l0] at h
 | k + 1 => by
  have ih0 := latheref02_length.mono_l k
  ·intro y0 y1
   unfold latheref02_length.l0
   repeat' with_reducible first
    | exact ih0 _ _
    | exact LeO.refl _
    | exact LeO.none _
    | refine LeO.ite ?_ ?_
    | refine LeO.bind ?_ (fun _ => ?_)
theorem latheref02_length.mono : ∀ a0 k, LeO (latheref02_length.f k a0) (latheref02_length.f (k + 1) a0) := by
 intro a0 k
 have ih0 := latheref02_length.mono_l k
 unfold latheref02_length.f
 repeat' with_reducible first
  | exact ih0 _ _
  | exact LeO.refl _
  | exact LeO.none _
  | refine LeO.ite ?_ ?_
  | refine LeO.bind ?_ (fun _ => ?_)
set_option maxHeartbeats 8000000 in
set_option maxRecDepth 100000 in
theorem latheref02_length.calls (k : Nat) (a0 : Int) (r : Int) (w : World) (h : latheref02_length.f k a0 = some r) :
  Calls Tryd.prog 72 #[.int .u64 a0] w fun e w' => e = .returned (.int .i64 r) ∧ Drawn0 w w' := by
 have H : (latheref02_length.l0 k a0 0) = some r := h
 clear h
 have H' := Aside0.mk H
 clear H
 go_enter Tryd.func72, Tryd.ntmps72
 go_wp2
 go_loopg [0, 3] k (fun kq v0 v3 w' => ∃ (x0_1 : Int) (x3_1 : Int), v0 = .int .u64 x0_1 ∧ v3 = .int .i64 x3_1 ∧ Aside0 (latheref02_length.l0 kq x0_1 x3_1 = some r) ∧ Aside0 (kq ≤ k) ∧ Drawn0 w w')
 case atStart => exact ⟨(a0), (0), id_, id_, H', ⟨Nat.le_refl _⟩, by repeat (first | exact Drawn0.refl _ | apply Drawn0.step)⟩
 case round =>
  clear H'
  obtain ⟨x0_1, x3_1, rfl, rfl, HA, HK1, ⟨m1, rfl⟩⟩ := hrel
  cases gk with
  | zero => exact absurd HA.out (by simp [latheref02_length.l0])
  | succ k1 =>
   have H := HA.out
   clear HA
   simp only [latheref02_length.l0] at H
   by_cases c2 : x0_1 > 0
   ·rw [if_pos c2] at H
    have c2b0 : decide (0 < x0_1) = true := decide_eq_true c2
    clear c2
    have H' := Aside0.mk H
    clear H
    go_wp2
    go_roundg k1
    case measure => have := HK1.out; omega
    case rel => exact ⟨(x0_1 / 2), (wrap64 (x3_1 + 1)), id_, id_, H', ⟨by have := HK1.out; omega⟩, by repeat (first | exact Drawn0.refl _ | apply Drawn0.step)⟩
   rw [if_neg c2] at H
   have c2b0 : decide (0 < x0_1) = false := decide_eq_false c2
   clear c2
   obtain rfl := Option.some.inj H
   go_wp2
   go_ret
   exact ⟨by first | rfl | (simp; done) | (simp [*]; done), by repeat (first | exact Drawn0.refl _ | apply Drawn0.step)⟩

/-! ### latheref02_halved: function 73 (given) -/
def latheref02_halved.f (a0 : Int) (a1 : Int) : Option (Int) := if 0 ≤ a0 ∧ a0 < 18446744073709551616 ∧ 1 ≤ a1 then some (Ref.hv a0.toNat a1.toNat : Nat) else none
theorem latheref02_halved.calls (a0 : Int) (a1 : Int) (r : Int) (w : World) (h : latheref02_halved.f a0 a1 = some r) :
  Calls Tryd.prog 73 #[.int .u64 a0, .int .i64 a1] w fun e w' => e = .returned (.int .u64 r) ∧ Drawn0 w w' := by
 unfold latheref02_halved.f at h
 split at h
 case isFalse => cases h
 rename_i g
 have h := Option.some.inj h
 subst h
 exact Ref.halved_given a0 a1 w g.1 g.2.1 g.2.2

end Go.Proofs.YtmfladkimmnccaaDoor.PW
