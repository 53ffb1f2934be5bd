/- The functions of the program that a statement reaches, as plain functions, and that the machine's calls do what these say. No condition. (Printed by a program.) -/
import Derived.Test.YtmfladkimmnccaaDoorPWx0
import Derived.Test.YtmfladkimmnccaaDoorPVx5
import Derived.Test.YtmfladkimmnccaaDoorPVx8
import Derived.Test.YtmfladkimmnccaaDoorPVx10
import Derived.Test.YtmfladkimmnccaaDoorWal
namespace Go.Proofs.YtmfladkimmnccaaDoor.PW
open Go.RowKit Go.Proofs.YtmfladkimmnccaaDoorW.PrintWords Go.Proofs.YtmfladkimmnccaaDoorW.PrintLast Go.Proofs.YtmfladkimmnccaaDoorW.PrintMore Go.Proofs.YtmfladkimmnccaaDoor.Sht
attribute [local go_sem] max2_int min2_int max_two min_two max_three min_three max_four min_four   -- for this text's walks alone
set_option linter.unusedVariables false
set_option linter.unusedSimpArgs false

/-! ### latheref02_Mul: function 27 -/
mutual
def latheref02_Mul.j0 : Nat → Bool → Bool → Bool → Int → Int → Bool → Bool → Bool → Int → Int → Bool → Bool → Option (Int)
 | 0, _, _, _, _, _, _, _, _, _, _, _, _ => none
 | k + 1, x7, x17, x348000, x348001, x348002, x348003, x348004, x354000, x354001, x354002, x354003, x354004 => if x17 = true then (some 2143289344) else (if x348003 = true then (latheref02_Mul.j1 k x7 true x348000 x348001 x348002 x348003 x348004 x354000 x354001 x354002 x354003 x354004) else (latheref02_Mul.j1 k x7 x354003 x348000 x348001 x348002 x348003 x348004 x354000 x354001 x354002 x354003 x354004))
def latheref02_Mul.j1 : Nat → Bool → Bool → Bool → Int → Int → Bool → Bool → Bool → Int → Int → Bool → Bool → Option (Int)
 | 0, _, _, _, _, _, _, _, _, _, _, _, _ => none
 | k + 1, x7, x49, x348000, x348001, x348002, x348003, x348004, x354000, x354001, x354002, x354003, x354004 => if x49 = true then ((latheref02_infinite.f x7).bind fun t355 => (some t355)) else ((latheref02_Round.f k x7 (IntKind.u64.wrap (x348001 * x354001)) (wrap64 (x348002 + x354002))).bind fun t356 => (some t356))
end
def latheref02_Mul.f (k : Nat) (a0 : Int) (a1 : Int) : Option (Int) := (latheref02_Of.f a0).bind fun bt342 => ((latheref02_Of.f a1).bind fun bt348 => ((latheref02_nan.f bt342.1 bt342.2.1 bt342.2.2.1 bt342.2.2.2.1 bt342.2.2.2.2 bt348.1 bt348.2.1 bt348.2.2.1 bt348.2.2.2.1 bt348.2.2.2.2).bind fun t354 => (if t354 = true then (latheref02_Mul.j0 k (bt342.1 != bt348.1) true bt342.1 bt342.2.1 bt342.2.2.1 bt342.2.2.2.1 bt342.2.2.2.2 bt348.1 bt348.2.1 bt348.2.2.1 bt348.2.2.2.1 bt348.2.2.2.2) else (if bt342.2.2.2.1 = true then (if bt348.2.2.2.1 = true then (latheref02_Mul.j0 k (bt342.1 != bt348.1) false bt342.1 bt342.2.1 bt342.2.2.1 bt342.2.2.2.1 bt342.2.2.2.2 bt348.1 bt348.2.1 bt348.2.2.1 bt348.2.2.2.1 bt348.2.2.2.2) else (if bt348.2.1 = 0 then (latheref02_Mul.j0 k (bt342.1 != bt348.1) true bt342.1 bt342.2.1 bt342.2.2.1 bt342.2.2.2.1 bt342.2.2.2.2 bt348.1 bt348.2.1 bt348.2.2.1 bt348.2.2.2.1 bt348.2.2.2.2) else (latheref02_Mul.j0 k (bt342.1 != bt348.1) false bt342.1 bt342.2.1 bt342.2.2.1 bt342.2.2.2.1 bt342.2.2.2.2 bt348.1 bt348.2.1 bt348.2.2.1 bt348.2.2.2.1 bt348.2.2.2.2))) else (if bt348.2.2.2.1 = true then (latheref02_Mul.j0 k (bt342.1 != bt348.1) (bt342.2.1 == 0) bt342.1 bt342.2.1 bt342.2.2.1 bt342.2.2.2.1 bt342.2.2.2.2 bt348.1 bt348.2.1 bt348.2.2.1 bt348.2.2.2.1 bt348.2.2.2.2) else (latheref02_Mul.j0 k (bt342.1 != bt348.1) false bt342.1 bt342.2.1 bt342.2.2.1 bt342.2.2.2.1 bt342.2.2.2.2 bt348.1 bt348.2.1 bt348.2.2.1 bt348.2.2.2.1 bt348.2.2.2.2))))))
theorem latheref02_Mul.mono_l : ∀ k, (∀ y0 y1 y2 y3 y4 y5 y6 y7 y8 y9 y10 y11, LeO (latheref02_Mul.j0 k y0 y1 y2 y3 y4 y5 y6 y7 y8 y9 y10 y11) (latheref02_Mul.j0 (k + 1) y0 y1 y2 y3 y4 y5 y6 y7 y8 y9 y10 y11)) ∧ (∀ y0 y1 y2 y3 y4 y5 y6 y7 y8 y9 y10 y11, LeO (latheref02_Mul.j1 k y0 y1 y2 y3 y4 y5 y6 y7 y8 y9 y10 y11) (latheref02_Mul.j1 (k + 1) y0 y1 y2 y3 y4 y5 y6 y7 y8 y9 y10 y11))
 | 0 => ⟨fun _ _ _ _ _ _ _ _ _ _ _ _ r h => by simp [latheref02_Mul.j0] at h, fun _ _ _ _ _ _ _ _ _ _ _ _ r h => by simp [latheref02_Mul.j1] at h⟩
 | k + 1 => by
  obtain ⟨ih0, ih1⟩ := latheref02_Mul.mono_l k
  refine ⟨?_, ?_⟩ <;> intros <;> (first | unfold latheref02_Mul.j0 | unfold latheref02_Mul.j1)
  all_goals repeat' with_reducible first
   | exact ih0 _ _ _ _ _ _ _ _ _ _ _ _
   | exact ih1 _ _ _ _ _ _ _ _ _ _ _ _
   | exact latheref02_Round.mono _ _ _ _
   | exact LeO.refl _
   | exact LeO.none _
   | refine LeO.ite ?_ ?_
   | refine LeO.bind ?_ (fun _ => ?_)
theorem latheref02_Mul.mono : ∀ a0 a1 k, LeO (latheref02_Mul.f k a0 a1) (latheref02_Mul.f (k + 1) a0 a1) := by
 intro a0 a1 k
 obtain ⟨ih0, ih1⟩ := latheref02_Mul.mono_l k
 unfold latheref02_Mul.f
 repeat' with_reducible first
  | exact ih0 _ _ _ _ _ _ _ _ _ _ _ _
  | exact ih1 _ _ _ _ _ _ _ _ _ _ _ _
  | exact latheref02_Round.mono _ _ _ _
  | exact LeO.refl _
  | exact LeO.none _
  | refine LeO.ite ?_ ?_
  | refine LeO.bind ?_ (fun _ => ?_)
set_option maxHeartbeats 8000000 in
set_option maxRecDepth 100000 in
theorem latheref02_Mul.calls (k : Nat) (a0 : Int) (a1 : Int) (r : Int) (w : World) (h : latheref02_Mul.f k a0 a1 = some r) :
  Calls Tryd.prog 27 #[.int .i64 a0, .int .i64 a1] w fun e w' => e = .returned (.int .i64 r) ∧ Below w.heap.size w w' := by
 have hu62 := Tryd.underlying62
 have HB := Aside0.mk (Below.refl w.heap.size w)
 have H : ((latheref02_Of.f a0).bind fun bt342 => ((latheref02_Of.f a1).bind fun bt348 => ((latheref02_nan.f bt342.1 bt342.2.1 bt342.2.2.1 bt342.2.2.2.1 bt342.2.2.2.2 bt348.1 bt348.2.1 bt348.2.2.1 bt348.2.2.2.1 bt348.2.2.2.2).bind fun t354 => (if t354 = true then (latheref02_Mul.j0 k (bt342.1 != bt348.1) true bt342.1 bt342.2.1 bt342.2.2.1 bt342.2.2.2.1 bt342.2.2.2.2 bt348.1 bt348.2.1 bt348.2.2.1 bt348.2.2.2.1 bt348.2.2.2.2) else (if bt342.2.2.2.1 = true then (if bt348.2.2.2.1 = true then (latheref02_Mul.j0 k (bt342.1 != bt348.1) false bt342.1 bt342.2.1 bt342.2.2.1 bt342.2.2.2.1 bt342.2.2.2.2 bt348.1 bt348.2.1 bt348.2.2.1 bt348.2.2.2.1 bt348.2.2.2.2) else (if bt348.2.1 = 0 then (latheref02_Mul.j0 k (bt342.1 != bt348.1) true bt342.1 bt342.2.1 bt342.2.2.1 bt342.2.2.2.1 bt342.2.2.2.2 bt348.1 bt348.2.1 bt348.2.2.1 bt348.2.2.2.1 bt348.2.2.2.2) else (latheref02_Mul.j0 k (bt342.1 != bt348.1) false bt342.1 bt342.2.1 bt342.2.2.1 bt342.2.2.2.1 bt342.2.2.2.2 bt348.1 bt348.2.1 bt348.2.2.1 bt348.2.2.2.1 bt348.2.2.2.2))) else (if bt348.2.2.2.1 = true then (latheref02_Mul.j0 k (bt342.1 != bt348.1) (bt342.2.1 == 0) bt342.1 bt342.2.1 bt342.2.2.1 bt342.2.2.2.1 bt342.2.2.2.2 bt348.1 bt348.2.1 bt348.2.2.1 bt348.2.2.2.1 bt348.2.2.2.2) else (latheref02_Mul.j0 k (bt342.1 != bt348.1) false bt342.1 bt342.2.1 bt342.2.2.1 bt342.2.2.2.1 bt342.2.2.2.2 bt348.1 bt348.2.1 bt348.2.2.1 bt348.2.2.2.1 bt348.2.2.2.2))))))) = some r := h
 clear h
 replace H := Option.bind_eq_some_iff.mp H
 obtain ⟨⟨t342, t343, t344, t345, t346⟩, A30, H⟩ := H
 have A3 := Aside0.mk A30
 clear A30
 replace H := Option.bind_eq_some_iff.mp H
 obtain ⟨⟨t348, t349, t350, t351, t352⟩, A40, H⟩ := H
 have A4 := Aside0.mk A40
 clear A40
 have HC5 := Aside0.mk H
 clear H
 go_enter Tryd.func27, Tryd.ntmps27
 go_upto_region 4 with (first | ((with_reducible refine gate_callee (f := 47) rfl ?_); refine gC (some 9) Tryd.func47 (latheref02_Of.calls a0 t342 t343 t344 t345 t346 _ A3.out) (fun w6 hb => ?_); clear A3; replace HB := bst hb; (try clear hb)) | ((with_reducible refine gate_dst (N := 5) rfl ?_); refine box_event ?hg (N := 5) ?hd (cs := #[.bool false, .int .u64 0, .int .i64 0, .bool false, .bool false]) (t := 62) ?hr ?_; (case hd => rfl); (case hg => rfl); (case hr => first | (go_simp; done) | (go_simp; rfl)); intro gb347 hg w7 hbox hb; have BK347 := Aside0.mk (hbox); have GW347 := bsz (w := w) hg; have GE347 := bsz (w := w) hg; replace HB := bst hb; clear hb hbox hg; obtain ⟨_, _, _, _, _, _, _, _, _, _⟩ := bx5 BK347.out) | ((with_reducible refine gate_callee (f := 47) rfl ?_); refine gC (some 11) Tryd.func47 (latheref02_Of.calls a1 t348 t349 t350 t351 t352 _ A4.out) (fun w9 hb => ?_); clear A4; replace BK347 := Aside0.mk (blk_below (g := gb347) (o := .cells #[.bool t342, .int .u64 t343, .int .i64 t344, .bool t345, .bool t346] 62 (0, 0)) (by (with_reducible repeat (first | refine blk_drewN ?_ _ | refine blk_drew ?_ | refine blk_alloc ?_ _)); refine blk_put (cs := #[.bool t342, .int .u64 t343, .int .i64 t344, .bool t345, .bool false]) ?_ 4 _ rfl; (with_reducible repeat (first | refine blk_drewN ?_ _ | refine blk_drew ?_ | refine blk_alloc ?_ _)); refine blk_put (cs := #[.bool t342, .int .u64 t343, .int .i64 t344, .bool false, .bool false]) ?_ 3 _ rfl; (with_reducible repeat (first | refine blk_drewN ?_ _ | refine blk_drew ?_ | refine blk_alloc ?_ _)); refine blk_put (cs := #[.bool t342, .int .u64 t343, .int .i64 0, .bool false, .bool false]) ?_ 2 _ rfl; (with_reducible repeat (first | refine blk_drewN ?_ _ | refine blk_drew ?_ | refine blk_alloc ?_ _)); refine blk_put (cs := #[.bool t342, .int .u64 0, .int .i64 0, .bool false, .bool false]) ?_ 1 _ rfl; (with_reducible repeat (first | refine blk_drewN ?_ _ | refine blk_drew ?_ | refine blk_alloc ?_ _)); refine blk_put (cs := #[.bool false, .int .u64 0, .int .i64 0, .bool false, .bool false]) ?_ 0 _ rfl; (with_reducible repeat (first | refine blk_drewN ?_ _ | refine blk_drew ?_ | refine blk_alloc ?_ _)); exact BK347.out) hb); replace HB := bst hb; (try clear hb)) | ((with_reducible refine gate_dst (N := 6) rfl ?_); refine box_event ?hg (N := 6) ?hd (cs := #[.bool false, .int .u64 0, .int .i64 0, .bool false, .bool false]) (t := 62) ?hr ?_; (case hd => rfl); (case hg => rfl); (case hr => first | (go_simp; done) | (go_simp; rfl)); intro gb353 hg w10 hbox hb; have BK353 := Aside0.mk (hbox); have GW353 := bsz (w := w) hg; have GE353 := bsz (w := w) hg; have NB347_353 := Aside0.mk ((by rw [hg]; exact Nat.ne_of_lt (blk_lt (g := gb347) (o := .cells #[.bool t342, .int .u64 t343, .int .i64 t344, .bool t345, .bool t346] 62 (0, 0)) bkk) : gb347 ≠ gb353)); have NB353_347 := Aside0.mk ((by rw [hg]; exact Nat.ne_of_gt (blk_lt (g := gb347) (o := .cells #[.bool t342, .int .u64 t343, .int .i64 t344, .bool t345, .bool t346] 62 (0, 0)) bkk) : gb353 ≠ gb347)); replace BK347 := bks BK347 hb; replace HB := bst hb; clear hb hbox hg; have hnb11 := NB353_347.out; have hnc11 := NB347_353.out; obtain ⟨_, _, _, _, _, _, _, _, _, _⟩ := bx5 BK353.out; obtain ⟨_, _, _, _, _, _, _, _, _, _⟩ := bx5 BK347.out))
 go_cut [17] (fun v17 wc => ∃ (kq : Nat) (x17_4 : Bool), v17 = .bool x17_4 ∧ Aside0 (latheref02_Mul.j0 kq (t342 != t348) x17_4 t342 t343 t344 t345 t346 t348 t349 t350 t351 t352 = some r) ∧ Aside0 (kq ≤ k) ∧ Aside0 (wc.heap[gb347]? = some (.cells #[.bool t342, .int .u64 t343, .int .i64 t344, .bool t345, .bool t346] 62 (0, 0))) ∧ Aside0 (wc.heap[gb353]? = some (.cells #[.bool t348, .int .u64 t349, .int .i64 t350, .bool t351, .bool t352] 62 (0, 0))) ∧ Aside0 (Below w.heap.size w wc))
 case first =>
  have H := HC5.out
  clear HC5
  replace H := Option.bind_eq_some_iff.mp H
  obtain ⟨t354, A140, H⟩ := H
  have A14 := Aside0.mk A140
  clear A140
  by_cases c15 : t354 = true
  ·subst c15
   rw [if_pos rfl] at H
   have H' := Aside0.mk H
   clear H
   have hnb16 := NB347_353.out
   have hnc16 := NB353_347.out
   obtain ⟨_, _, _, _, _, _, _, _, _, _⟩ := bx5 BK347.out
   obtain ⟨_, _, _, _, _, _, _, _, _, _⟩ := bx5 BK353.out
   go_wp2_with (first | ((with_reducible refine gate_callee (f := 46) rfl ?_); refine gC (some 20) Tryd.func46 (latheref02_nan.calls t342 t343 t344 t345 t346 t348 t349 t350 t351 t352 true _ A14.out) (fun w19 hb => ?_); clear A14; replace BK347 := bks BK347 hb; replace BK353 := Aside0.mk (blk_below (g := gb353) (o := .cells #[.bool t348, .int .u64 t349, .int .i64 t350, .bool t351, .bool t352] 62 (0, 0)) (by (with_reducible repeat (first | refine blk_drewN ?_ _ | refine blk_drew ?_ | refine blk_alloc ?_ _)); refine blk_put (cs := #[.bool t348, .int .u64 t349, .int .i64 t350, .bool t351, .bool false]) ?_ 4 _ rfl; (with_reducible repeat (first | refine blk_drewN ?_ _ | refine blk_drew ?_ | refine blk_alloc ?_ _)); refine blk_put (cs := #[.bool t348, .int .u64 t349, .int .i64 t350, .bool false, .bool false]) ?_ 3 _ rfl; (with_reducible repeat (first | refine blk_drewN ?_ _ | refine blk_drew ?_ | refine blk_alloc ?_ _)); refine blk_put (cs := #[.bool t348, .int .u64 t349, .int .i64 0, .bool false, .bool false]) ?_ 2 _ rfl; (with_reducible repeat (first | refine blk_drewN ?_ _ | refine blk_drew ?_ | refine blk_alloc ?_ _)); refine blk_put (cs := #[.bool t348, .int .u64 0, .int .i64 0, .bool false, .bool false]) ?_ 1 _ rfl; (with_reducible repeat (first | refine blk_drewN ?_ _ | refine blk_drew ?_ | refine blk_alloc ?_ _)); refine blk_put (cs := #[.bool false, .int .u64 0, .int .i64 0, .bool false, .bool false]) ?_ 0 _ rfl; (with_reducible repeat (first | refine blk_drewN ?_ _ | refine blk_drew ?_ | refine blk_alloc ?_ _)); exact BK353.out) hb); replace HB := bst hb; (try clear hb)))
   go_meet
   case rel => exact ⟨_, (true), id_, H', ⟨by first | omega | exact Nat.le_refl _⟩, ⟨bkk⟩, ⟨bkk⟩, ⟨hbb⟩⟩
  replace c15 := Bool.eq_false_iff.mpr c15
  subst c15
  rw [if_neg (show ¬ (false = true) by decide)] at H
  by_cases c20 : t345 = true
  rotate_left
  ·replace c20 := Bool.eq_false_iff.mpr c20
   subst c20
   rw [if_neg (show ¬ (false = true) by decide)] at H
   by_cases c41 : t351 = true
   ·subst c41
    rw [if_pos rfl] at H
    have H' := Aside0.mk H
    clear H
    have hnb42 := NB347_353.out
    have hnc42 := NB353_347.out
    obtain ⟨_, _, _, _, _, _, _, _, _, _⟩ := bx5 BK347.out
    obtain ⟨_, _, _, _, _, _, _, _, _, _⟩ := bx5 BK353.out
    go_wp2_with (first | ((with_reducible refine gate_callee (f := 46) rfl ?_); refine gC (some 20) Tryd.func46 (latheref02_nan.calls t342 t343 t344 false t346 t348 t349 t350 true t352 false _ A14.out) (fun w45 hb => ?_); clear A14; replace BK347 := bks BK347 hb; replace BK353 := Aside0.mk (blk_below (g := gb353) (o := .cells #[.bool t348, .int .u64 t349, .int .i64 t350, .bool true, .bool t352] 62 (0, 0)) (by (with_reducible repeat (first | refine blk_drewN ?_ _ | refine blk_drew ?_ | refine blk_alloc ?_ _)); refine blk_put (cs := #[.bool t348, .int .u64 t349, .int .i64 t350, .bool true, .bool false]) ?_ 4 _ rfl; (with_reducible repeat (first | refine blk_drewN ?_ _ | refine blk_drew ?_ | refine blk_alloc ?_ _)); refine blk_put (cs := #[.bool t348, .int .u64 t349, .int .i64 t350, .bool false, .bool false]) ?_ 3 _ rfl; (with_reducible repeat (first | refine blk_drewN ?_ _ | refine blk_drew ?_ | refine blk_alloc ?_ _)); refine blk_put (cs := #[.bool t348, .int .u64 t349, .int .i64 0, .bool false, .bool false]) ?_ 2 _ rfl; (with_reducible repeat (first | refine blk_drewN ?_ _ | refine blk_drew ?_ | refine blk_alloc ?_ _)); refine blk_put (cs := #[.bool t348, .int .u64 0, .int .i64 0, .bool false, .bool false]) ?_ 1 _ rfl; (with_reducible repeat (first | refine blk_drewN ?_ _ | refine blk_drew ?_ | refine blk_alloc ?_ _)); refine blk_put (cs := #[.bool false, .int .u64 0, .int .i64 0, .bool false, .bool false]) ?_ 0 _ rfl; (with_reducible repeat (first | refine blk_drewN ?_ _ | refine blk_drew ?_ | refine blk_alloc ?_ _)); exact BK353.out) hb); replace HB := bst hb; (try clear hb); obtain ⟨_, _, _, _, _, _, _, _, _, _⟩ := bx5 BK347.out; obtain ⟨_, _, _, _, _, _, _, _, _, _⟩ := bx5 BK353.out))
    go_meet
    case rel => exact ⟨_, ((t343 == 0)), id_, H', ⟨by first | omega | exact Nat.le_refl _⟩, ⟨bkk⟩, ⟨bkk⟩, ⟨hbb⟩⟩
   replace c41 := Bool.eq_false_iff.mpr c41
   subst c41
   rw [if_neg (show ¬ (false = true) by decide)] at H
   have H' := Aside0.mk H
   clear H
   have hnb48 := NB347_353.out
   have hnc48 := NB353_347.out
   obtain ⟨_, _, _, _, _, _, _, _, _, _⟩ := bx5 BK347.out
   obtain ⟨_, _, _, _, _, _, _, _, _, _⟩ := bx5 BK353.out
   go_wp2_with (first | ((with_reducible refine gate_callee (f := 46) rfl ?_); refine gC (some 20) Tryd.func46 (latheref02_nan.calls t342 t343 t344 false t346 t348 t349 t350 false t352 false _ A14.out) (fun w51 hb => ?_); clear A14; replace BK347 := bks BK347 hb; replace BK353 := Aside0.mk (blk_below (g := gb353) (o := .cells #[.bool t348, .int .u64 t349, .int .i64 t350, .bool false, .bool t352] 62 (0, 0)) (by (with_reducible repeat (first | refine blk_drewN ?_ _ | refine blk_drew ?_ | refine blk_alloc ?_ _)); refine blk_put (cs := #[.bool t348, .int .u64 t349, .int .i64 t350, .bool false, .bool false]) ?_ 4 _ rfl; (with_reducible repeat (first | refine blk_drewN ?_ _ | refine blk_drew ?_ | refine blk_alloc ?_ _)); refine blk_put (cs := #[.bool t348, .int .u64 t349, .int .i64 t350, .bool false, .bool false]) ?_ 3 _ rfl; (with_reducible repeat (first | refine blk_drewN ?_ _ | refine blk_drew ?_ | refine blk_alloc ?_ _)); refine blk_put (cs := #[.bool t348, .int .u64 t349, .int .i64 0, .bool false, .bool false]) ?_ 2 _ rfl; (with_reducible repeat (first | refine blk_drewN ?_ _ | refine blk_drew ?_ | refine blk_alloc ?_ _)); refine blk_put (cs := #[.bool t348, .int .u64 0, .int .i64 0, .bool false, .bool false]) ?_ 1 _ rfl; (with_reducible repeat (first | refine blk_drewN ?_ _ | refine blk_drew ?_ | refine blk_alloc ?_ _)); refine blk_put (cs := #[.bool false, .int .u64 0, .int .i64 0, .bool false, .bool false]) ?_ 0 _ rfl; (with_reducible repeat (first | refine blk_drewN ?_ _ | refine blk_drew ?_ | refine blk_alloc ?_ _)); exact BK353.out) hb); replace HB := bst hb; (try clear hb); obtain ⟨_, _, _, _, _, _, _, _, _, _⟩ := bx5 BK347.out; obtain ⟨_, _, _, _, _, _, _, _, _, _⟩ := bx5 BK353.out))
   go_meet
   case rel => exact ⟨_, (false), id_, H', ⟨by first | omega | exact Nat.le_refl _⟩, ⟨bkk⟩, ⟨bkk⟩, ⟨hbb⟩⟩
  subst c20
  rw [if_pos rfl] at H
  by_cases c21 : t351 = true
  ·subst c21
   rw [if_pos rfl] at H
   have H' := Aside0.mk H
   clear H
   have hnb22 := NB347_353.out
   have hnc22 := NB353_347.out
   obtain ⟨_, _, _, _, _, _, _, _, _, _⟩ := bx5 BK347.out
   obtain ⟨_, _, _, _, _, _, _, _, _, _⟩ := bx5 BK353.out
   go_wp2_with (first | ((with_reducible refine gate_callee (f := 46) rfl ?_); refine gC (some 20) Tryd.func46 (latheref02_nan.calls t342 t343 t344 true t346 t348 t349 t350 true t352 false _ A14.out) (fun w25 hb => ?_); clear A14; replace BK347 := bks BK347 hb; replace BK353 := Aside0.mk (blk_below (g := gb353) (o := .cells #[.bool t348, .int .u64 t349, .int .i64 t350, .bool true, .bool t352] 62 (0, 0)) (by (with_reducible repeat (first | refine blk_drewN ?_ _ | refine blk_drew ?_ | refine blk_alloc ?_ _)); refine blk_put (cs := #[.bool t348, .int .u64 t349, .int .i64 t350, .bool true, .bool false]) ?_ 4 _ rfl; (with_reducible repeat (first | refine blk_drewN ?_ _ | refine blk_drew ?_ | refine blk_alloc ?_ _)); refine blk_put (cs := #[.bool t348, .int .u64 t349, .int .i64 t350, .bool false, .bool false]) ?_ 3 _ rfl; (with_reducible repeat (first | refine blk_drewN ?_ _ | refine blk_drew ?_ | refine blk_alloc ?_ _)); refine blk_put (cs := #[.bool t348, .int .u64 t349, .int .i64 0, .bool false, .bool false]) ?_ 2 _ rfl; (with_reducible repeat (first | refine blk_drewN ?_ _ | refine blk_drew ?_ | refine blk_alloc ?_ _)); refine blk_put (cs := #[.bool t348, .int .u64 0, .int .i64 0, .bool false, .bool false]) ?_ 1 _ rfl; (with_reducible repeat (first | refine blk_drewN ?_ _ | refine blk_drew ?_ | refine blk_alloc ?_ _)); refine blk_put (cs := #[.bool false, .int .u64 0, .int .i64 0, .bool false, .bool false]) ?_ 0 _ rfl; (with_reducible repeat (first | refine blk_drewN ?_ _ | refine blk_drew ?_ | refine blk_alloc ?_ _)); exact BK353.out) hb); replace HB := bst hb; (try clear hb); obtain ⟨_, _, _, _, _, _, _, _, _, _⟩ := bx5 BK347.out; obtain ⟨_, _, _, _, _, _, _, _, _, _⟩ := bx5 BK353.out))
   go_meet
   case rel => exact ⟨_, (false), id_, H', ⟨by first | omega | exact Nat.le_refl _⟩, ⟨bkk⟩, ⟨bkk⟩, ⟨hbb⟩⟩
  replace c21 := Bool.eq_false_iff.mpr c21
  subst c21
  rw [if_neg (show ¬ (false = true) by decide)] at H
  by_cases c28 : t349 = 0
  ·rw [if_pos c28] at H
   have c28b0 : (t349 == 0) = true := beq_iff_eq.mpr c28
   have c28b1 : (t349 != 0) = false := bne_eq_false_iff_eq.mpr c28
   clear c28
   (first | rw [c28b0] | (simp only [i64_w, i32_w]; rw [c28b0]) | skip)
   have H' := Aside0.mk H
   clear H
   have hnb29 := NB347_353.out
   have hnc29 := NB353_347.out
   obtain ⟨_, _, _, _, _, _, _, _, _, _⟩ := bx5 BK347.out
   obtain ⟨_, _, _, _, _, _, _, _, _, _⟩ := bx5 BK353.out
   go_wp2_with (first | ((with_reducible refine gate_callee (f := 46) rfl ?_); refine gC (some 20) Tryd.func46 (latheref02_nan.calls t342 t343 t344 true t346 t348 t349 t350 false t352 false _ A14.out) (fun w32 hb => ?_); clear A14; replace BK347 := bks BK347 hb; replace BK353 := Aside0.mk (blk_below (g := gb353) (o := .cells #[.bool t348, .int .u64 t349, .int .i64 t350, .bool false, .bool t352] 62 (0, 0)) (by (with_reducible repeat (first | refine blk_drewN ?_ _ | refine blk_drew ?_ | refine blk_alloc ?_ _)); refine blk_put (cs := #[.bool t348, .int .u64 t349, .int .i64 t350, .bool false, .bool false]) ?_ 4 _ rfl; (with_reducible repeat (first | refine blk_drewN ?_ _ | refine blk_drew ?_ | refine blk_alloc ?_ _)); refine blk_put (cs := #[.bool t348, .int .u64 t349, .int .i64 t350, .bool false, .bool false]) ?_ 3 _ rfl; (with_reducible repeat (first | refine blk_drewN ?_ _ | refine blk_drew ?_ | refine blk_alloc ?_ _)); refine blk_put (cs := #[.bool t348, .int .u64 t349, .int .i64 0, .bool false, .bool false]) ?_ 2 _ rfl; (with_reducible repeat (first | refine blk_drewN ?_ _ | refine blk_drew ?_ | refine blk_alloc ?_ _)); refine blk_put (cs := #[.bool t348, .int .u64 0, .int .i64 0, .bool false, .bool false]) ?_ 1 _ rfl; (with_reducible repeat (first | refine blk_drewN ?_ _ | refine blk_drew ?_ | refine blk_alloc ?_ _)); refine blk_put (cs := #[.bool false, .int .u64 0, .int .i64 0, .bool false, .bool false]) ?_ 0 _ rfl; (with_reducible repeat (first | refine blk_drewN ?_ _ | refine blk_drew ?_ | refine blk_alloc ?_ _)); exact BK353.out) hb); replace HB := bst hb; (try clear hb); obtain ⟨_, _, _, _, _, _, _, _, _, _⟩ := bx5 BK347.out; obtain ⟨_, _, _, _, _, _, _, _, _, _⟩ := bx5 BK353.out))
   go_meet
   case rel => exact ⟨_, (true), id_, H', ⟨by first | omega | exact Nat.le_refl _⟩, ⟨bkk⟩, ⟨bkk⟩, ⟨hbb⟩⟩
  rw [if_neg c28] at H
  have c28b0 : (t349 == 0) = false := beq_eq_false_iff_ne.mpr c28
  have c28b1 : (t349 != 0) = true := bne_iff_ne.mpr c28
  (first | rw [c28b0] | (simp only [i64_w, i32_w]; rw [c28b0]) | skip)
  have H' := Aside0.mk H
  clear H
  have hnb35 := NB347_353.out
  have hnc35 := NB353_347.out
  obtain ⟨_, _, _, _, _, _, _, _, _, _⟩ := bx5 BK347.out
  obtain ⟨_, _, _, _, _, _, _, _, _, _⟩ := bx5 BK353.out
  go_wp2_with (first | ((with_reducible refine gate_callee (f := 46) rfl ?_); refine gC (some 20) Tryd.func46 (latheref02_nan.calls t342 t343 t344 true t346 t348 t349 t350 false t352 false _ A14.out) (fun w38 hb => ?_); clear A14; replace BK347 := bks BK347 hb; replace BK353 := Aside0.mk (blk_below (g := gb353) (o := .cells #[.bool t348, .int .u64 t349, .int .i64 t350, .bool false, .bool t352] 62 (0, 0)) (by (with_reducible repeat (first | refine blk_drewN ?_ _ | refine blk_drew ?_ | refine blk_alloc ?_ _)); refine blk_put (cs := #[.bool t348, .int .u64 t349, .int .i64 t350, .bool false, .bool false]) ?_ 4 _ rfl; (with_reducible repeat (first | refine blk_drewN ?_ _ | refine blk_drew ?_ | refine blk_alloc ?_ _)); refine blk_put (cs := #[.bool t348, .int .u64 t349, .int .i64 t350, .bool false, .bool false]) ?_ 3 _ rfl; (with_reducible repeat (first | refine blk_drewN ?_ _ | refine blk_drew ?_ | refine blk_alloc ?_ _)); refine blk_put (cs := #[.bool t348, .int .u64 t349, .int .i64 0, .bool false, .bool false]) ?_ 2 _ rfl; (with_reducible repeat (first | refine blk_drewN ?_ _ | refine blk_drew ?_ | refine blk_alloc ?_ _)); refine blk_put (cs := #[.bool t348, .int .u64 0, .int .i64 0, .bool false, .bool false]) ?_ 1 _ rfl; (with_reducible repeat (first | refine blk_drewN ?_ _ | refine blk_drew ?_ | refine blk_alloc ?_ _)); refine blk_put (cs := #[.bool false, .int .u64 0, .int .i64 0, .bool false, .bool false]) ?_ 0 _ rfl; (with_reducible repeat (first | refine blk_drewN ?_ _ | refine blk_drew ?_ | refine blk_alloc ?_ _)); exact BK353.out) hb); replace HB := bst hb; (try clear hb); obtain ⟨_, _, _, _, _, _, _, _, _, _⟩ := bx5 BK347.out; obtain ⟨_, _, _, _, _, _, _, _, _, _⟩ := bx5 BK353.out))
  go_meet
  case rel => exact ⟨_, (false), id_, H', ⟨by first | omega | exact Nat.le_refl _⟩, ⟨bkk⟩, ⟨bkk⟩, ⟨hbb⟩⟩
 case rest =>
  clear HC5
  obtain ⟨kq, x17_4, rfl, HA, HJ4, BK347, BK353, HB⟩ := hcut
  cases kq with
  | zero => exact absurd HA.out (by simp [latheref02_Mul.j0])
  | succ kj4 =>
   have H := HA.out
   clear HA
   simp only [latheref02_Mul.j0] at H
   by_cases c54 : x17_4 = true
   ·subst c54
    rw [if_pos rfl] at H
    obtain rfl := Option.some.inj H
    go_wp2
    go_ret
    exact fin_
   replace c54 := Bool.eq_false_iff.mpr c54
   subst c54
   rw [if_neg (show ¬ (false = true) by decide)] at H
   have HC55 := Aside0.mk H
   clear H
   go_upto_region 6 with (fail)
   go_cut [49] (fun v49 wc => ∃ (kq : Nat) (x49_54 : Bool), v49 = .bool x49_54 ∧ Aside0 (latheref02_Mul.j1 kq (t342 != t348) x49_54 t342 t343 t344 t345 t346 t348 t349 t350 t351 t352 = some r) ∧ Aside0 (kq ≤ kj4) ∧ Aside0 (wc.heap[gb347]? = some (.cells #[.bool t342, .int .u64 t343, .int .i64 t344, .bool t345, .bool t346] 62 (0, 0))) ∧ Aside0 (wc.heap[gb353]? = some (.cells #[.bool t348, .int .u64 t349, .int .i64 t350, .bool t351, .bool t352] 62 (0, 0))) ∧ Aside0 (Below w.heap.size w wc))
   case first =>
    have H := HC55.out
    clear HC55
    by_cases c56 : t345 = true
    ·subst c56
     rw [if_pos rfl] at H
     have H' := Aside0.mk H
     clear H
     have hnb57 := NB347_353.out
     have hnc57 := NB353_347.out
     obtain ⟨_, _, _, _, _, _, _, _, _, _⟩ := bx5 BK347.out
     go_wp2
     go_meet
     case rel => exact ⟨_, (true), id_, H', ⟨by have := HJ4.out; first | omega | exact Nat.le_refl _⟩, ⟨bkk⟩, ⟨bkk⟩, ⟨hbb⟩⟩
    replace c56 := Bool.eq_false_iff.mpr c56
    subst c56
    rw [if_neg (show ¬ (false = true) by decide)] at H
    have H' := Aside0.mk H
    clear H
    have hnb59 := NB347_353.out
    have hnc59 := NB353_347.out
    obtain ⟨_, _, _, _, _, _, _, _, _, _⟩ := bx5 BK347.out
    obtain ⟨_, _, _, _, _, _, _, _, _, _⟩ := bx5 BK353.out
    go_wp2
    go_meet
    case rel => exact ⟨_, (t351), id_, H', ⟨by have := HJ4.out; first | omega | exact Nat.le_refl _⟩, ⟨bkk⟩, ⟨bkk⟩, ⟨hbb⟩⟩
   case rest =>
    clear HC55
    obtain ⟨kq, x49_54, rfl, HA, HJ54, BK347, BK353, HB⟩ := hcut
    cases kq with
    | zero => exact absurd HA.out (by simp [latheref02_Mul.j1])
    | succ kj54 =>
     have H := HA.out
     clear HA
     simp only [latheref02_Mul.j1] at H
     by_cases c62 : x49_54 = true
     ·subst c62
      rw [if_pos rfl] at H
      replace H := Option.bind_eq_some_iff.mp H
      obtain ⟨t355, A630, H⟩ := H
      have A63 := Aside0.mk A630
      clear A630
      obtain rfl := Option.some.inj H
      go_wp2_with (first | ((with_reducible refine gate_callee (f := 50) rfl ?_); refine gL (some 57) Tryd.func50 #[.bool (t342 != t348)] ?_; (with_reducible refine (latheref02_infinite.calls (t342 != t348) t355 _ A63.out).mono ?_); clear A63; rintro e w' ⟨rfl, ⟨nd, rfl⟩⟩; refine ⟨_, rfl, ?_⟩))
      go_ret
      exact fin_
     replace c62 := Bool.eq_false_iff.mpr c62
     subst c62
     rw [if_neg (show ¬ (false = true) by decide)] at H
     replace H := Option.bind_eq_some_iff.mp H
     obtain ⟨t356, A640, H⟩ := H
     have A64 := Aside0.mk A640
     clear A640
     obtain rfl := Option.some.inj H
     have hnb65 := NB347_353.out
     have hnc65 := NB353_347.out
     obtain ⟨_, _, _, _, _, _, _, _, _, _⟩ := bx5 BK347.out
     obtain ⟨_, _, _, _, _, _, _, _, _, _⟩ := bx5 BK353.out
     go_wp2_with (first | ((with_reducible refine gate_callee (f := 52) rfl ?_); refine gC (some 69) Tryd.func52 (latheref02_Round.calls kj54 (t342 != t348) (IntKind.u64.wrap (t343 * t349)) (wrap64 (t344 + t350)) t356 _ A64.out) (fun w68 hb => ?_); clear A64; replace BK347 := bks BK347 hb; replace BK353 := bks BK353 hb; replace HB := bst hb; (try clear hb)))
     go_ret
     exact fin_

end Go.Proofs.YtmfladkimmnccaaDoor.PW
