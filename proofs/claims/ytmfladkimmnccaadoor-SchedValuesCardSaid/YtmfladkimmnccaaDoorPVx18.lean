/- The functions of the program that a statement reaches, as plain functions, and that the machine's calls do what these say. No condition. (Printed by a program.) -/
import Derived.Test.YtmfladkimmnccaaDoorPWx0
import Derived.Test.YtmfladkimmnccaaDoorPVx5
import Derived.Test.YtmfladkimmnccaaDoorPVx10
import Derived.Test.YtmfladkimmnccaaDoorPVx16
import Derived.Test.YtmfladkimmnccaaDoorWal
namespace Go.Proofs.YtmfladkimmnccaaDoor.PW
open Go.RowKit Go.Proofs.YtmfladkimmnccaaDoorW.PrintWords Go.Proofs.YtmfladkimmnccaaDoorW.PrintLast Go.Proofs.YtmfladkimmnccaaDoorW.PrintMore Go.Proofs.YtmfladkimmnccaaDoor.Sht
attribute [local go_sem] max2_int min2_int max_two min_two max_three min_three max_four min_four   -- for this text's walks alone
set_option linter.unusedVariables false
set_option linter.unusedSimpArgs false

/-! ### latheref02_Sqrt: function 61 -/
mutual
def latheref02_Sqrt.j0 : Nat → Int → Bool → Bool → Int → Int → Bool → Bool → Option (Int)
 | 0, _, _, _, _, _, _, _ => none
 | k + 1, x0, x14, x442000, x442001, x442002, x442003, x442004 => if x14 = true then (some x0) else (if x442000 = true then (some 2143289344) else (if x442003 = true then (some x0) else ((latheref02_up.f x442000 x442001 x442002 x442003 x442004).bind fun bt442 => (if (Int.tmod (wrap64 (bt442.2.2.1 - 36)) 2) = 0 then (latheref02_Sqrt.j1 k (IntKind.u64.wrap (bt442.2.1 * 68719476736)) (wrap64 (bt442.2.2.1 - 36))) else (latheref02_Sqrt.j1 k (IntKind.u64.wrap ((IntKind.u64.wrap (bt442.2.1 * 68719476736)) * 2)) (wrap64 ((wrap64 (bt442.2.2.1 - 36)) - 1)))))))
def latheref02_Sqrt.j1 : Nat → Int → Int → Option (Int)
 | 0, _, _ => none
 | k + 1, x4, x5 => latheref02_Sqrt.l0 k x4 x5 0 2147483648
def latheref02_Sqrt.l0 : Nat → Int → Int → Int → Int → Option (Int)
 | 0, _, _, _, _ => none
 | k + 1, x4, x5, x6, x7 => if x7 > 0 then (if (IntKind.u64.wrap ((IntKind.u64.wrap (x6 + x7)) * (IntKind.u64.wrap (x6 + x7)))) ≤ x4 then (latheref02_Sqrt.l0 k x4 x5 (IntKind.u64.wrap (x6 + x7)) (IntKind.u64.wrap (Int.tdiv x7 2))) else (latheref02_Sqrt.l0 k x4 x5 x6 (IntKind.u64.wrap (Int.tdiv x7 2)))) else (if (IntKind.u64.wrap (x6 * x6)) < x4 then ((latheref02_Round.f k false (IntKind.u64.wrap ((IntKind.u64.wrap (x6 * 2)) + 1)) (wrap64 ((wrap64 (Int.tdiv x5 2)) - 1))).bind fun t447 => (some t447)) else ((latheref02_Round.f k false (IntKind.u64.wrap (x6 * 2)) (wrap64 ((wrap64 (Int.tdiv x5 2)) - 1))).bind fun t448 => (some t448)))
end
def latheref02_Sqrt.f (k : Nat) (a0 : Int) : Option (Int) := (latheref02_Of.f a0).bind fun bt436 => (if bt436.2.2.2.2 = true then (some 2143289344) else (if bt436.2.2.2.1 = true then (latheref02_Sqrt.j0 k a0 false bt436.1 bt436.2.1 bt436.2.2.1 bt436.2.2.2.1 bt436.2.2.2.2) else (latheref02_Sqrt.j0 k a0 (bt436.2.1 == 0) bt436.1 bt436.2.1 bt436.2.2.1 bt436.2.2.2.1 bt436.2.2.2.2)))
theorem latheref02_Sqrt.mono_l : ∀ k, (∀ y0 y1 y2 y3 y4 y5 y6, LeO (latheref02_Sqrt.j0 k y0 y1 y2 y3 y4 y5 y6) (latheref02_Sqrt.j0 (k + 1) y0 y1 y2 y3 y4 y5 y6)) ∧ (∀ y0 y1, LeO (latheref02_Sqrt.j1 k y0 y1) (latheref02_Sqrt.j1 (k + 1) y0 y1)) ∧ (∀ y0 y1 y2 y3, LeO (latheref02_Sqrt.l0 k y0 y1 y2 y3) (latheref02_Sqrt.l0 (k + 1) y0 y1 y2 y3))
 | 0 => ⟨fun _ _ _ _ _ _ _ r h => by simp [latheref02_Sqrt.j0] at h, fun _ _ r h => by simp [latheref02_Sqrt.j1] at h, fun _ _ _ _ r h => by simp [latheref02_Sqrt.l0] at h⟩
 | k + 1 => by
  obtain ⟨ih0, ih1, ih2⟩ := latheref02_Sqrt.mono_l k
  refine ⟨?_, ?_, ?_⟩ <;> intros <;> (first | unfold latheref02_Sqrt.j0 | unfold latheref02_Sqrt.j1 | unfold latheref02_Sqrt.l0)
  all_goals repeat' with_reducible first
   | exact ih0 _ _ _ _ _ _ _
   | exact ih1 _ _
   | exact ih2 _ _ _ _
   | exact latheref02_Round.mono _ _ _ _
   | exact LeO.refl _
   | exact LeO.none _
   | refine LeO.ite ?_ ?_
   | refine LeO.bind ?_ (fun _ => ?_)
theorem latheref02_Sqrt.mono : ∀ a0 k, LeO (latheref02_Sqrt.f k a0) (latheref02_Sqrt.f (k + 1) a0) := by
 intro a0 k
 obtain ⟨ih0, ih1, ih2⟩ := latheref02_Sqrt.mono_l k
 unfold latheref02_Sqrt.f
 repeat' with_reducible first
  | exact ih0 _ _ _ _ _ _ _
  | exact ih1 _ _
  | exact ih2 _ _ _ _
  | exact latheref02_Round.mono _ _ _ _
  | exact LeO.refl _
  | exact LeO.none _
  | refine LeO.ite ?_ ?_
  | refine LeO.bind ?_ (fun _ => ?_)
set_option maxHeartbeats 8000000 in
set_option maxRecDepth 100000 in
theorem latheref02_Sqrt.calls (k : Nat) (a0 : Int) (r : Int) (w : World) (h : latheref02_Sqrt.f k a0 = some r) :
  Calls Tryd.prog 61 #[.int .i64 a0] w fun e w' => e = .returned (.int .i64 r) ∧ Below w.heap.size w w' := by
 have hu62 := Tryd.underlying62
 have HB := Aside0.mk (Below.refl w.heap.size w)
 have H : ((latheref02_Of.f a0).bind fun bt436 => (if bt436.2.2.2.2 = true then (some 2143289344) else (if bt436.2.2.2.1 = true then (latheref02_Sqrt.j0 k a0 false bt436.1 bt436.2.1 bt436.2.2.1 bt436.2.2.2.1 bt436.2.2.2.2) else (latheref02_Sqrt.j0 k a0 (bt436.2.1 == 0) bt436.1 bt436.2.1 bt436.2.2.1 bt436.2.2.2.1 bt436.2.2.2.2)))) = some r := h
 clear h
 replace H := Option.bind_eq_some_iff.mp H
 obtain ⟨⟨t436, t437, t438, t439, t440⟩, A20, H⟩ := H
 have A2 := Aside0.mk A20
 clear A20
 by_cases c3 : t440 = true
 ·subst c3
  rw [if_pos rfl] at H
  obtain rfl := Option.some.inj H
  go_enter Tryd.func61, Tryd.ntmps61
  go_wp2_with (first | ((with_reducible refine gate_callee (f := 47) rfl ?_); refine gC (some 10) Tryd.func47 (latheref02_Of.calls a0 t436 t437 t438 t439 true _ A2.out) (fun w4 hb => ?_); clear A2; replace HB := bst hb; (try clear hb)) | ((with_reducible refine gate_dst (N := 3) rfl ?_); refine box_event ?hg (N := 3) ?hd (cs := #[.bool false, .int .u64 0, .int .i64 0, .bool false, .bool false]) (t := 62) ?hr ?_; (case hd => rfl); (case hg => rfl); (case hr => first | (go_simp; done) | (go_simp; rfl)); intro gb441 hg w5 hbox hb; have BK441 := Aside0.mk (hbox); have GW441 := bsz (w := w) hg; have GE441 := bsz (w := w) hg; replace HB := bst hb; clear hb hbox hg; obtain ⟨_, _, _, _, _, _, _, _, _, _⟩ := bx5 BK441.out))
  go_ret
  exact fin_
 replace c3 := Bool.eq_false_iff.mpr c3
 subst c3
 rw [if_neg (show ¬ (false = true) by decide)] at H
 have HC7 := Aside0.mk H
 clear H
 go_enter Tryd.func61, Tryd.ntmps61
 go_upto_region 4 with (first | ((with_reducible refine gate_callee (f := 47) rfl ?_); refine gC (some 10) Tryd.func47 (latheref02_Of.calls a0 t436 t437 t438 t439 false _ A2.out) (fun w8 hb => ?_); clear A2; replace HB := bst hb; (try clear hb)) | ((with_reducible refine gate_dst (N := 3) rfl ?_); refine box_event ?hg (N := 3) ?hd (cs := #[.bool false, .int .u64 0, .int .i64 0, .bool false, .bool false]) (t := 62) ?hr ?_; (case hd => rfl); (case hg => rfl); (case hr => first | (go_simp; done) | (go_simp; rfl)); intro gb441 hg w9 hbox hb; have BK441 := Aside0.mk (hbox); have GW441 := bsz (w := w) hg; have GE441 := bsz (w := w) hg; replace HB := bst hb; clear hb hbox hg; obtain ⟨_, _, _, _, _, _, _, _, _, _⟩ := bx5 BK441.out))
 go_cut [14] (fun v14 wc => ∃ (kq : Nat) (x14_6 : Bool), v14 = .bool x14_6 ∧ Aside0 (latheref02_Sqrt.j0 kq a0 x14_6 t436 t437 t438 t439 false = some r) ∧ Aside0 (kq ≤ k) ∧ Aside0 (wc.heap[gb441]? = some (.cells #[.bool t436, .int .u64 t437, .int .i64 t438, .bool t439, .bool false] 62 (0, 0))) ∧ Aside0 (Below w.heap.size w wc))
 case first =>
  have H := HC7.out
  clear HC7
  by_cases c11 : t439 = true
  ·subst c11
   rw [if_pos rfl] at H
   have H' := Aside0.mk H
   clear H
   obtain ⟨_, _, _, _, _, _, _, _, _, _⟩ := bx5 BK441.out
   go_wp2
   go_meet
   case rel => exact ⟨_, (false), id_, H', ⟨by first | omega | exact Nat.le_refl _⟩, ⟨by (with_reducible repeat (first | refine blk_drewN ?_ _ | refine blk_drew ?_ | refine blk_alloc ?_ _)); refine blk_put (cs := #[.bool t436, .int .u64 t437, .int .i64 t438, .bool true, .bool false]) ?_ 4 _ rfl; (with_reducible repeat (first | refine blk_drewN ?_ _ | refine blk_drew ?_ | refine blk_alloc ?_ _)); refine blk_put (cs := #[.bool t436, .int .u64 t437, .int .i64 t438, .bool false, .bool false]) ?_ 3 _ rfl; (with_reducible repeat (first | refine blk_drewN ?_ _ | refine blk_drew ?_ | refine blk_alloc ?_ _)); refine blk_put (cs := #[.bool t436, .int .u64 t437, .int .i64 0, .bool false, .bool false]) ?_ 2 _ rfl; (with_reducible repeat (first | refine blk_drewN ?_ _ | refine blk_drew ?_ | refine blk_alloc ?_ _)); refine blk_put (cs := #[.bool t436, .int .u64 0, .int .i64 0, .bool false, .bool false]) ?_ 1 _ rfl; (with_reducible repeat (first | refine blk_drewN ?_ _ | refine blk_drew ?_ | refine blk_alloc ?_ _)); refine blk_put (cs := #[.bool false, .int .u64 0, .int .i64 0, .bool false, .bool false]) ?_ 0 _ rfl; (with_reducible repeat (first | refine blk_drewN ?_ _ | refine blk_drew ?_ | refine blk_alloc ?_ _)); exact BK441.out⟩, ⟨hbb⟩⟩
  replace c11 := Bool.eq_false_iff.mpr c11
  subst c11
  rw [if_neg (show ¬ (false = true) by decide)] at H
  have H' := Aside0.mk H
  clear H
  obtain ⟨_, _, _, _, _, _, _, _, _, _⟩ := bx5 BK441.out
  go_wp2
  go_meet
  case rel => exact ⟨_, ((t437 == 0)), id_, H', ⟨by first | omega | exact Nat.le_refl _⟩, ⟨by (with_reducible repeat (first | refine blk_drewN ?_ _ | refine blk_drew ?_ | refine blk_alloc ?_ _)); refine blk_put (cs := #[.bool t436, .int .u64 t437, .int .i64 t438, .bool false, .bool false]) ?_ 4 _ rfl; (with_reducible repeat (first | refine blk_drewN ?_ _ | refine blk_drew ?_ | refine blk_alloc ?_ _)); refine blk_put (cs := #[.bool t436, .int .u64 t437, .int .i64 t438, .bool false, .bool false]) ?_ 3 _ rfl; (with_reducible repeat (first | refine blk_drewN ?_ _ | refine blk_drew ?_ | refine blk_alloc ?_ _)); refine blk_put (cs := #[.bool t436, .int .u64 t437, .int .i64 0, .bool false, .bool false]) ?_ 2 _ rfl; (with_reducible repeat (first | refine blk_drewN ?_ _ | refine blk_drew ?_ | refine blk_alloc ?_ _)); refine blk_put (cs := #[.bool t436, .int .u64 0, .int .i64 0, .bool false, .bool false]) ?_ 1 _ rfl; (with_reducible repeat (first | refine blk_drewN ?_ _ | refine blk_drew ?_ | refine blk_alloc ?_ _)); refine blk_put (cs := #[.bool false, .int .u64 0, .int .i64 0, .bool false, .bool false]) ?_ 0 _ rfl; (with_reducible repeat (first | refine blk_drewN ?_ _ | refine blk_drew ?_ | refine blk_alloc ?_ _)); exact BK441.out⟩, ⟨hbb⟩⟩
 case rest =>
  clear HC7
  obtain ⟨kq, x14_6, rfl, HA, HJ6, BK441, HB⟩ := hcut
  cases kq with
  | zero => exact absurd HA.out (by simp [latheref02_Sqrt.j0])
  | succ kj6 =>
   have H := HA.out
   clear HA
   simp only [latheref02_Sqrt.j0] at H
   by_cases c14 : x14_6 = true
   ·subst c14
    rw [if_pos rfl] at H
    obtain rfl := Option.some.inj H
    go_wp2
    go_ret
    exact fin_
   replace c14 := Bool.eq_false_iff.mpr c14
   subst c14
   rw [if_neg (show ¬ (false = true) by decide)] at H
   by_cases c15 : t436 = true
   ·subst c15
    rw [if_pos rfl] at H
    obtain rfl := Option.some.inj H
    obtain ⟨_, _, _, _, _, _, _, _, _, _⟩ := bx5 BK441.out
    go_wp2
    go_ret
    exact fin_
   replace c15 := Bool.eq_false_iff.mpr c15
   subst c15
   rw [if_neg (show ¬ (false = true) by decide)] at H
   by_cases c17 : t439 = true
   ·subst c17
    rw [if_pos rfl] at H
    obtain rfl := Option.some.inj H
    obtain ⟨_, _, _, _, _, _, _, _, _, _⟩ := bx5 BK441.out
    go_wp2
    go_ret
    exact fin_
   replace c17 := Bool.eq_false_iff.mpr c17
   subst c17
   rw [if_neg (show ¬ (false = true) by decide)] at H
   replace H := Option.bind_eq_some_iff.mp H
   obtain ⟨⟨t442, t443, t444, t445, t446⟩, A190, H⟩ := H
   have A19 := Aside0.mk A190
   clear A190
   have HC20 := Aside0.mk H
   clear H
   obtain ⟨_, _, _, _, _, _, _, _, _, _⟩ := bx5 BK441.out
   go_upto_if 41 with (first | ((with_reducible refine gate_callee (f := 78) rfl ?_); refine gC (some 32) Tryd.func78 (latheref02_up.calls false t437 t438 false false t442 t443 t444 t445 t446 _ A19.out) (fun w22 hb => ?_); clear A19; replace BK441 := bks BK441 hb; replace HB := bst hb; (try clear hb); obtain ⟨_, _, _, _, _, _, _, _, _, _⟩ := bx5 BK441.out))
   go_cut [4, 5] (fun v4 v5 wc => ∃ (kq : Nat) (x4_19 : Int) (x5_19 : Int), v4 = .int .u64 x4_19 ∧ v5 = .int .i64 x5_19 ∧ Aside0 (latheref02_Sqrt.j1 kq x4_19 x5_19 = some r) ∧ Aside0 (kq ≤ kj6) ∧ Aside0 (wc.heap[gb441]? = some (.cells #[.bool t442, .int .u64 t443, .int .i64 t444, .bool t445, .bool t446] 62 (0, 0))) ∧ Aside0 (Below w.heap.size w wc))
   case first =>
    have H := HC20.out
    clear HC20
    by_cases c24 : (Int.tmod (wrap64 (t444 - 36)) 2) = 0
    ·rw [if_pos c24] at H
     have c24b0 : ((Int.tmod (wrap64 (t444 - 36)) 2) == 0) = true := beq_iff_eq.mpr c24
     have c24b1 : ((Int.tmod (wrap64 (t444 - 36)) 2) != 0) = false := bne_eq_false_iff_eq.mpr c24
     clear c24
     (first | rw [c24b0] | (simp only [i64_w, i32_w]; rw [c24b0]) | skip)
     have H' := Aside0.mk H
     clear H
     go_wp2
     go_meet
     case rel => exact ⟨_, (IntKind.u64.wrap (t443 * 68719476736)), (wrap64 (t444 - 36)), id_, id_, H', ⟨by have := HJ6.out; first | omega | exact Nat.le_refl _⟩, ⟨by (with_reducible repeat (first | refine blk_drewN ?_ _ | refine blk_drew ?_ | refine blk_alloc ?_ _)); refine blk_put (cs := #[.bool t442, .int .u64 t443, .int .i64 t444, .bool t445, .bool false]) ?_ 4 _ rfl; (with_reducible repeat (first | refine blk_drewN ?_ _ | refine blk_drew ?_ | refine blk_alloc ?_ _)); refine blk_put (cs := #[.bool t442, .int .u64 t443, .int .i64 t444, .bool false, .bool false]) ?_ 3 _ rfl; (with_reducible repeat (first | refine blk_drewN ?_ _ | refine blk_drew ?_ | refine blk_alloc ?_ _)); refine blk_put (cs := #[.bool t442, .int .u64 t443, .int .i64 t438, .bool false, .bool false]) ?_ 2 _ rfl; (with_reducible repeat (first | refine blk_drewN ?_ _ | refine blk_drew ?_ | refine blk_alloc ?_ _)); refine blk_put (cs := #[.bool t442, .int .u64 t437, .int .i64 t438, .bool false, .bool false]) ?_ 1 _ rfl; (with_reducible repeat (first | refine blk_drewN ?_ _ | refine blk_drew ?_ | refine blk_alloc ?_ _)); refine blk_put (cs := #[.bool false, .int .u64 t437, .int .i64 t438, .bool false, .bool false]) ?_ 0 _ rfl; (with_reducible repeat (first | refine blk_drewN ?_ _ | refine blk_drew ?_ | refine blk_alloc ?_ _)); exact BK441.out⟩, ⟨hbb⟩⟩
    rw [if_neg c24] at H
    have c24b0 : ((Int.tmod (wrap64 (t444 - 36)) 2) == 0) = false := beq_eq_false_iff_ne.mpr c24
    have c24b1 : ((Int.tmod (wrap64 (t444 - 36)) 2) != 0) = true := bne_iff_ne.mpr c24
    (first | rw [c24b0] | (simp only [i64_w, i32_w]; rw [c24b0]) | skip)
    have H' := Aside0.mk H
    clear H
    go_wp2
    go_meet
    case rel => exact ⟨_, (IntKind.u64.wrap ((IntKind.u64.wrap (t443 * 68719476736)) * 2)), (wrap64 ((wrap64 (t444 - 36)) - 1)), id_, id_, H', ⟨by have := HJ6.out; first | omega | exact Nat.le_refl _⟩, ⟨by (with_reducible repeat (first | refine blk_drewN ?_ _ | refine blk_drew ?_ | refine blk_alloc ?_ _)); refine blk_put (cs := #[.bool t442, .int .u64 t443, .int .i64 t444, .bool t445, .bool false]) ?_ 4 _ rfl; (with_reducible repeat (first | refine blk_drewN ?_ _ | refine blk_drew ?_ | refine blk_alloc ?_ _)); refine blk_put (cs := #[.bool t442, .int .u64 t443, .int .i64 t444, .bool false, .bool false]) ?_ 3 _ rfl; (with_reducible repeat (first | refine blk_drewN ?_ _ | refine blk_drew ?_ | refine blk_alloc ?_ _)); refine blk_put (cs := #[.bool t442, .int .u64 t443, .int .i64 t438, .bool false, .bool false]) ?_ 2 _ rfl; (with_reducible repeat (first | refine blk_drewN ?_ _ | refine blk_drew ?_ | refine blk_alloc ?_ _)); refine blk_put (cs := #[.bool t442, .int .u64 t437, .int .i64 t438, .bool false, .bool false]) ?_ 1 _ rfl; (with_reducible repeat (first | refine blk_drewN ?_ _ | refine blk_drew ?_ | refine blk_alloc ?_ _)); refine blk_put (cs := #[.bool false, .int .u64 t437, .int .i64 t438, .bool false, .bool false]) ?_ 0 _ rfl; (with_reducible repeat (first | refine blk_drewN ?_ _ | refine blk_drew ?_ | refine blk_alloc ?_ _)); exact BK441.out⟩, ⟨hbb⟩⟩
   case rest =>
    clear HC20
    obtain ⟨kq, x4_19, x5_19, rfl, rfl, HA, HJ19, BK441, HB⟩ := hcut
    cases kq with
    | zero => exact absurd HA.out (by simp [latheref02_Sqrt.j1])
    | succ kj19 =>
     have H := HA.out
     clear HA
     simp only [latheref02_Sqrt.j1] at H
     have H' := Aside0.mk H
     clear H
     go_wp2
     go_loopg [6, 7] kj19 (fun kq v6 v7 w' => ∃ (x6_3 : Int) (x7_3 : Int), v6 = .int .u64 x6_3 ∧ v7 = .int .u64 x7_3 ∧ Aside0 (latheref02_Sqrt.l0 kq x4_19 x5_19 x6_3 x7_3 = some r) ∧ Aside0 (kq ≤ kj19) ∧ Aside0 (w'.heap[gb441]? = some (.cells #[.bool t442, .int .u64 t443, .int .i64 t444, .bool t445, .bool t446] 62 (0, 0))) ∧ Aside0 (Below w.heap.size w w'))
     case atStart => exact ⟨(0), (2147483648), id_, id_, H', ⟨Nat.le_refl _⟩, ⟨bkk⟩, ⟨hbb⟩⟩
     case round =>
      clear H'
      obtain ⟨x6_3, x7_3, rfl, rfl, HA, HK3, BK441, HB⟩ := hrel
      cases gk with
      | zero => exact absurd HA.out (by simp [latheref02_Sqrt.l0])
      | succ k3 =>
       have H := HA.out
       clear HA
       simp only [latheref02_Sqrt.l0] at H
       by_cases c25 : x7_3 > 0
       ·rw [if_pos c25] at H
        have c25b0 : decide (0 < x7_3) = true := decide_eq_true c25
        clear c25
        by_cases c26 : (IntKind.u64.wrap ((IntKind.u64.wrap (x6_3 + x7_3)) * (IntKind.u64.wrap (x6_3 + x7_3)))) ≤ x4_19
        ·rw [if_pos c26] at H
         have c26b0 := decide_eq_true c26
         clear c26
         have H' := Aside0.mk H
         clear H
         go_wp2
         go_roundg k3
         case measure => have := HJ6.out; have := HJ19.out; have := HK3.out; omega
         case rel => exact ⟨(IntKind.u64.wrap (x6_3 + x7_3)), (IntKind.u64.wrap (Int.tdiv x7_3 2)), id_, id_, H', ⟨by have := HJ6.out; have := HJ19.out; have := HK3.out; omega⟩, ⟨bkk⟩, ⟨hbb⟩⟩
        rw [if_neg c26] at H
        have c26b0 := decide_eq_false c26
        clear c26
        have H' := Aside0.mk H
        clear H
        go_wp2
        go_roundg k3
        case measure => have := HJ6.out; have := HJ19.out; have := HK3.out; omega
        case rel => exact ⟨(x6_3), (IntKind.u64.wrap (Int.tdiv x7_3 2)), id_, id_, H', ⟨by have := HJ6.out; have := HJ19.out; have := HK3.out; omega⟩, ⟨bkk⟩, ⟨hbb⟩⟩
       rw [if_neg c25] at H
       have c25b0 : decide (0 < x7_3) = false := decide_eq_false c25
       clear c25
       by_cases c27 : (IntKind.u64.wrap (x6_3 * x6_3)) < x4_19
       ·rw [if_pos c27] at H
        have c27b0 := decide_eq_true c27
        clear c27
        replace H := Option.bind_eq_some_iff.mp H
        obtain ⟨t447, A280, H⟩ := H
        have A28 := Aside0.mk A280
        clear A280
        obtain rfl := Option.some.inj H
        go_wp2_with (first | ((with_reducible refine gate_callee (f := 52) rfl ?_); refine gC (some 75) Tryd.func52 (latheref02_Round.calls k3 false (IntKind.u64.wrap ((IntKind.u64.wrap (x6_3 * 2)) + 1)) (wrap64 ((wrap64 (Int.tdiv x5_19 2)) - 1)) t447 _ A28.out) (fun w29 hb => ?_); clear A28; replace BK441 := bks BK441 hb; replace HB := bst hb; (try clear hb)))
        go_ret
        exact fin_
       rw [if_neg c27] at H
       have c27b0 := decide_eq_false c27
       clear c27
       replace H := Option.bind_eq_some_iff.mp H
       obtain ⟨t448, A300, H⟩ := H
       have A30 := Aside0.mk A300
       clear A300
       obtain rfl := Option.some.inj H
       go_wp2_with (first | ((with_reducible refine gate_callee (f := 52) rfl ?_); refine gC (some 75) Tryd.func52 (latheref02_Round.calls k3 false (IntKind.u64.wrap (x6_3 * 2)) (wrap64 ((wrap64 (Int.tdiv x5_19 2)) - 1)) t448 _ A30.out) (fun w31 hb => ?_); clear A30; replace BK441 := bks BK441 hb; replace HB := bst hb; (try clear hb)))
       go_ret
       exact fin_

end Go.Proofs.YtmfladkimmnccaaDoor.PW
