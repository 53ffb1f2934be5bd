/- The functions of the program that a statement reaches, as plain functions, and that the machine's calls do what these say. No condition. (Printed by a program.) -/
import Derived.Test.YtmfladkimmnccaaDoorPWx0
import Derived.Test.YtmfladkimmnccaaDoorPVx5
import Derived.Test.YtmfladkimmnccaaDoorPVx8
import Derived.Test.YtmfladkimmnccaaDoorPVx10
import Derived.Test.YtmfladkimmnccaaDoorWal
namespace Go.Proofs.YtmfladkimmnccaaDoor.PW
open Go.RowKit Go.Proofs.YtmfladkimmnccaaDoorW.PrintWords Go.Proofs.YtmfladkimmnccaaDoorW.PrintLast Go.Proofs.YtmfladkimmnccaaDoorW.PrintMore Go.Proofs.YtmfladkimmnccaaDoor.Sht
attribute [local go_sem] max2_int min2_int max_two min_two max_three min_three max_four min_four   -- for this text's walks alone
set_option linter.unusedVariables false
set_option linter.unusedSimpArgs false

/-! ### latheref02_Add: function 26 -/
mutual
def latheref02_Add.j0 : Nat → Bool → Bool → Int → Int → Bool → Bool → Bool → Int → Int → Bool → Bool → Option (Int)
 | 0, _, _, _, _, _, _, _, _, _, _, _ => none
 | k + 1, x11, x325000, x325001, x325002, x325003, x325004, x331000, x331001, x331002, x331003, x331004 => if x11 = true then (some 2143289344) else (if x325003 = true then ((latheref02_infinite.f x325000).bind fun t332 => (some t332)) else (if x331003 = true then ((latheref02_infinite.f x331000).bind fun t333 => (some t333)) else (if x325001 = 0 then (latheref02_Add.j1 k (x331001 == 0) x325000 x325001 x325002 x325003 x325004 x331000 x331001 x331002 x331003 x331004) else (latheref02_Add.j1 k false x325000 x325001 x325002 x325003 x325004 x331000 x331001 x331002 x331003 x331004))))
def latheref02_Add.j1 : Nat → Bool → Bool → Int → Int → Bool → Bool → Bool → Int → Int → Bool → Bool → Option (Int)
 | 0, _, _, _, _, _, _, _, _, _, _, _ => none
 | k + 1, x42, x325000, x325001, x325002, x325003, x325004, x331000, x331001, x331002, x331003, x331004 => if x42 = true then (if x325000 = true then ((latheref02_zero.f x331000).bind fun t334 => (some t334)) else ((latheref02_zero.f false).bind fun t335 => (some t335))) else (if x325001 = 0 then ((latheref02_Round.f k x331000 x331001 x331002).bind fun t336 => (some t336)) else (if x331001 = 0 then ((latheref02_Round.f k x325000 x325001 x325002).bind fun t337 => (some t337)) else (if x325002 < x331002 then ((latheref02_sum.f k x331000 x331001 x331002 x331003 x331004 x325000 x325001 x325002 x325003 x325004).bind fun t338 => (some t338)) else ((latheref02_sum.f k x325000 x325001 x325002 x325003 x325004 x331000 x331001 x331002 x331003 x331004).bind fun t339 => (some t339)))))
end
def latheref02_Add.f (k : Nat) (a0 : Int) (a1 : Int) : Option (Int) := (latheref02_Of.f a0).bind fun bt319 => ((latheref02_Of.f a1).bind fun bt325 => ((latheref02_nan.f bt319.1 bt319.2.1 bt319.2.2.1 bt319.2.2.2.1 bt319.2.2.2.2 bt325.1 bt325.2.1 bt325.2.2.1 bt325.2.2.2.1 bt325.2.2.2.2).bind fun t331 => (if t331 = true then (latheref02_Add.j0 k true bt319.1 bt319.2.1 bt319.2.2.1 bt319.2.2.2.1 bt319.2.2.2.2 bt325.1 bt325.2.1 bt325.2.2.1 bt325.2.2.2.1 bt325.2.2.2.2) else (if bt319.2.2.2.1 = true then (if bt325.2.2.2.1 = true then (latheref02_Add.j0 k (bt319.1 != bt325.1) bt319.1 bt319.2.1 bt319.2.2.1 bt319.2.2.2.1 bt319.2.2.2.2 bt325.1 bt325.2.1 bt325.2.2.1 bt325.2.2.2.1 bt325.2.2.2.2) else (latheref02_Add.j0 k false bt319.1 bt319.2.1 bt319.2.2.1 bt319.2.2.2.1 bt319.2.2.2.2 bt325.1 bt325.2.1 bt325.2.2.1 bt325.2.2.2.1 bt325.2.2.2.2)) else (latheref02_Add.j0 k false bt319.1 bt319.2.1 bt319.2.2.1 bt319.2.2.2.1 bt319.2.2.2.2 bt325.1 bt325.2.1 bt325.2.2.1 bt325.2.2.2.1 bt325.2.2.2.2)))))
theorem latheref02_Add.mono_l : ∀ k, (∀ y0 y1 y2 y3 y4 y5 y6 y7 y8 y9 y10, LeO (latheref02_Add.j0 k y0 y1 y2 y3 y4 y5 y6 y7 y8 y9 y10) (latheref02_Add.j0 (k + 1) y0 y1 y2 y3 y4 y5 y6 y7 y8 y9 y10)) ∧ (∀ y0 y1 y2 y3 y4 y5 y6 y7 y8 y9 y10, LeO (latheref02_Add.j1 k y0 y1 y2 y3 y4 y5 y6 y7 y8 y9 y10) (latheref02_Add.j1 (k + 1) y0 y1 y2 y3 y4 y5 y6 y7 y8 y9 y10))
 | 0 => ⟨fun _ _ _ _ _ _ _ _ _ _ _ r h => by simp [latheref02_Add.j0] at h, fun _ _ _ _ _ _ _ _ _ _ _ r h => by simp [latheref02_Add.j1] at h⟩
 | k + 1 => by
  obtain ⟨ih0, ih1⟩ := latheref02_Add.mono_l k
  refine ⟨?_, ?_⟩ <;> intros <;> (first | unfold latheref02_Add.j0 | unfold latheref02_Add.j1)
  all_goals repeat' with_reducible first
   | exact ih0 _ _ _ _ _ _ _ _ _ _ _
   | exact ih1 _ _ _ _ _ _ _ _ _ _ _
   | exact latheref02_Round.mono _ _ _ _
   | exact latheref02_sum.mono _ _ _ _ _ _ _ _ _ _ _
   | exact LeO.refl _
   | exact LeO.none _
   | refine LeO.ite ?_ ?_
   | refine LeO.bind ?_ (fun _ => ?_)
theorem latheref02_Add.mono : ∀ a0 a1 k, LeO (latheref02_Add.f k a0 a1) (latheref02_Add.f (k + 1) a0 a1) := by
 intro a0 a1 k
 obtain ⟨ih0, ih1⟩ := latheref02_Add.mono_l k
 unfold latheref02_Add.f
 repeat' with_reducible first
  | exact ih0 _ _ _ _ _ _ _ _ _ _ _
  | exact ih1 _ _ _ _ _ _ _ _ _ _ _
  | exact latheref02_Round.mono _ _ _ _
  | exact latheref02_sum.mono _ _ _ _ _ _ _ _ _ _ _
  | exact LeO.refl _
  | exact LeO.none _
  | refine LeO.ite ?_ ?_
  | refine LeO.bind ?_ (fun _ => ?_)
set_option maxHeartbeats 8000000 in
set_option maxRecDepth 100000 in
theorem latheref02_Add.calls (k : Nat) (a0 : Int) (a1 : Int) (r : Int) (w : World) (h : latheref02_Add.f k a0 a1 = some r) :
  Calls Tryd.prog 26 #[.int .i64 a0, .int .i64 a1] w fun e w' => e = .returned (.int .i64 r) ∧ Below w.heap.size w w' := by
 have hu62 := Tryd.underlying62
 have HB := Aside0.mk (Below.refl w.heap.size w)
 have H : ((latheref02_Of.f a0).bind fun bt319 => ((latheref02_Of.f a1).bind fun bt325 => ((latheref02_nan.f bt319.1 bt319.2.1 bt319.2.2.1 bt319.2.2.2.1 bt319.2.2.2.2 bt325.1 bt325.2.1 bt325.2.2.1 bt325.2.2.2.1 bt325.2.2.2.2).bind fun t331 => (if t331 = true then (latheref02_Add.j0 k true bt319.1 bt319.2.1 bt319.2.2.1 bt319.2.2.2.1 bt319.2.2.2.2 bt325.1 bt325.2.1 bt325.2.2.1 bt325.2.2.2.1 bt325.2.2.2.2) else (if bt319.2.2.2.1 = true then (if bt325.2.2.2.1 = true then (latheref02_Add.j0 k (bt319.1 != bt325.1) bt319.1 bt319.2.1 bt319.2.2.1 bt319.2.2.2.1 bt319.2.2.2.2 bt325.1 bt325.2.1 bt325.2.2.1 bt325.2.2.2.1 bt325.2.2.2.2) else (latheref02_Add.j0 k false bt319.1 bt319.2.1 bt319.2.2.1 bt319.2.2.2.1 bt319.2.2.2.2 bt325.1 bt325.2.1 bt325.2.2.1 bt325.2.2.2.1 bt325.2.2.2.2)) else (latheref02_Add.j0 k false bt319.1 bt319.2.1 bt319.2.2.1 bt319.2.2.2.1 bt319.2.2.2.2 bt325.1 bt325.2.1 bt325.2.2.1 bt325.2.2.2.1 bt325.2.2.2.2)))))) = some r := h
 clear h
 replace H := Option.bind_eq_some_iff.mp H
 obtain ⟨⟨t319, t320, t321, t322, t323⟩, A30, H⟩ := H
 have A3 := Aside0.mk A30
 clear A30
 replace H := Option.bind_eq_some_iff.mp H
 obtain ⟨⟨t325, t326, t327, t328, t329⟩, A40, H⟩ := H
 have A4 := Aside0.mk A40
 clear A40
 have HC5 := Aside0.mk H
 clear H
 go_enter Tryd.func26, Tryd.ntmps26
 go_upto_region 3 with (first | ((with_reducible refine gate_callee (f := 47) rfl ?_); refine gC (some 8) Tryd.func47 (latheref02_Of.calls a0 t319 t320 t321 t322 t323 _ A3.out) (fun w6 hb => ?_); clear A3; replace HB := bst hb; (try clear hb)) | ((with_reducible refine gate_dst (N := 5) rfl ?_); refine box_event ?hg (N := 5) ?hd (cs := #[.bool false, .int .u64 0, .int .i64 0, .bool false, .bool false]) (t := 62) ?hr ?_; (case hd => rfl); (case hg => rfl); (case hr => first | (go_simp; done) | (go_simp; rfl)); intro gb324 hg w7 hbox hb; have BK324 := Aside0.mk (hbox); have GW324 := bsz (w := w) hg; have GE324 := bsz (w := w) hg; replace HB := bst hb; clear hb hbox hg; obtain ⟨_, _, _, _, _, _, _, _, _, _⟩ := bx5 BK324.out) | ((with_reducible refine gate_callee (f := 47) rfl ?_); refine gC (some 10) Tryd.func47 (latheref02_Of.calls a1 t325 t326 t327 t328 t329 _ A4.out) (fun w9 hb => ?_); clear A4; replace BK324 := Aside0.mk (blk_below (g := gb324) (o := .cells #[.bool t319, .int .u64 t320, .int .i64 t321, .bool t322, .bool t323] 62 (0, 0)) (by (with_reducible repeat (first | refine blk_drewN ?_ _ | refine blk_drew ?_ | refine blk_alloc ?_ _)); refine blk_put (cs := #[.bool t319, .int .u64 t320, .int .i64 t321, .bool t322, .bool false]) ?_ 4 _ rfl; (with_reducible repeat (first | refine blk_drewN ?_ _ | refine blk_drew ?_ | refine blk_alloc ?_ _)); refine blk_put (cs := #[.bool t319, .int .u64 t320, .int .i64 t321, .bool false, .bool false]) ?_ 3 _ rfl; (with_reducible repeat (first | refine blk_drewN ?_ _ | refine blk_drew ?_ | refine blk_alloc ?_ _)); refine blk_put (cs := #[.bool t319, .int .u64 t320, .int .i64 0, .bool false, .bool false]) ?_ 2 _ rfl; (with_reducible repeat (first | refine blk_drewN ?_ _ | refine blk_drew ?_ | refine blk_alloc ?_ _)); refine blk_put (cs := #[.bool t319, .int .u64 0, .int .i64 0, .bool false, .bool false]) ?_ 1 _ rfl; (with_reducible repeat (first | refine blk_drewN ?_ _ | refine blk_drew ?_ | refine blk_alloc ?_ _)); refine blk_put (cs := #[.bool false, .int .u64 0, .int .i64 0, .bool false, .bool false]) ?_ 0 _ rfl; (with_reducible repeat (first | refine blk_drewN ?_ _ | refine blk_drew ?_ | refine blk_alloc ?_ _)); exact BK324.out) hb); replace HB := bst hb; (try clear hb)) | ((with_reducible refine gate_dst (N := 6) rfl ?_); refine box_event ?hg (N := 6) ?hd (cs := #[.bool false, .int .u64 0, .int .i64 0, .bool false, .bool false]) (t := 62) ?hr ?_; (case hd => rfl); (case hg => rfl); (case hr => first | (go_simp; done) | (go_simp; rfl)); intro gb330 hg w10 hbox hb; have BK330 := Aside0.mk (hbox); have GW330 := bsz (w := w) hg; have GE330 := bsz (w := w) hg; have NB324_330 := Aside0.mk ((by rw [hg]; exact Nat.ne_of_lt (blk_lt (g := gb324) (o := .cells #[.bool t319, .int .u64 t320, .int .i64 t321, .bool t322, .bool t323] 62 (0, 0)) bkk) : gb324 ≠ gb330)); have NB330_324 := Aside0.mk ((by rw [hg]; exact Nat.ne_of_gt (blk_lt (g := gb324) (o := .cells #[.bool t319, .int .u64 t320, .int .i64 t321, .bool t322, .bool t323] 62 (0, 0)) bkk) : gb330 ≠ gb324)); replace BK324 := bks BK324 hb; replace HB := bst hb; clear hb hbox hg; have hnb11 := NB330_324.out; have hnc11 := NB324_330.out; obtain ⟨_, _, _, _, _, _, _, _, _, _⟩ := bx5 BK330.out))
 go_cut [11] (fun v11 wc => ∃ (kq : Nat) (x11_4 : Bool), v11 = .bool x11_4 ∧ Aside0 (latheref02_Add.j0 kq x11_4 t319 t320 t321 t322 t323 t325 t326 t327 t328 t329 = some r) ∧ Aside0 (kq ≤ k) ∧ Aside0 (wc.heap[gb324]? = some (.cells #[.bool t319, .int .u64 t320, .int .i64 t321, .bool t322, .bool t323] 62 (0, 0))) ∧ Aside0 (wc.heap[gb330]? = some (.cells #[.bool t325, .int .u64 t326, .int .i64 t327, .bool t328, .bool t329] 62 (0, 0))) ∧ Aside0 (Below w.heap.size w wc))
 case first =>
  have H := HC5.out
  clear HC5
  replace H := Option.bind_eq_some_iff.mp H
  obtain ⟨t331, A130, H⟩ := H
  have A13 := Aside0.mk A130
  clear A130
  by_cases c14 : t331 = true
  ·subst c14
   rw [if_pos rfl] at H
   have H' := Aside0.mk H
   clear H
   have hnb15 := NB324_330.out
   have hnc15 := NB330_324.out
   obtain ⟨_, _, _, _, _, _, _, _, _, _⟩ := bx5 BK324.out
   obtain ⟨_, _, _, _, _, _, _, _, _, _⟩ := bx5 BK330.out
   go_wp2_with (first | ((with_reducible refine gate_callee (f := 46) rfl ?_); refine gC (some 14) Tryd.func46 (latheref02_nan.calls t319 t320 t321 t322 t323 t325 t326 t327 t328 t329 true _ A13.out) (fun w18 hb => ?_); clear A13; replace BK324 := bks BK324 hb; replace BK330 := Aside0.mk (blk_below (g := gb330) (o := .cells #[.bool t325, .int .u64 t326, .int .i64 t327, .bool t328, .bool t329] 62 (0, 0)) (by (with_reducible repeat (first | refine blk_drewN ?_ _ | refine blk_drew ?_ | refine blk_alloc ?_ _)); refine blk_put (cs := #[.bool t325, .int .u64 t326, .int .i64 t327, .bool t328, .bool false]) ?_ 4 _ rfl; (with_reducible repeat (first | refine blk_drewN ?_ _ | refine blk_drew ?_ | refine blk_alloc ?_ _)); refine blk_put (cs := #[.bool t325, .int .u64 t326, .int .i64 t327, .bool false, .bool false]) ?_ 3 _ rfl; (with_reducible repeat (first | refine blk_drewN ?_ _ | refine blk_drew ?_ | refine blk_alloc ?_ _)); refine blk_put (cs := #[.bool t325, .int .u64 t326, .int .i64 0, .bool false, .bool false]) ?_ 2 _ rfl; (with_reducible repeat (first | refine blk_drewN ?_ _ | refine blk_drew ?_ | refine blk_alloc ?_ _)); refine blk_put (cs := #[.bool t325, .int .u64 0, .int .i64 0, .bool false, .bool false]) ?_ 1 _ rfl; (with_reducible repeat (first | refine blk_drewN ?_ _ | refine blk_drew ?_ | refine blk_alloc ?_ _)); refine blk_put (cs := #[.bool false, .int .u64 0, .int .i64 0, .bool false, .bool false]) ?_ 0 _ rfl; (with_reducible repeat (first | refine blk_drewN ?_ _ | refine blk_drew ?_ | refine blk_alloc ?_ _)); exact BK330.out) hb); replace HB := bst hb; (try clear hb)))
   go_meet
   case rel => exact ⟨_, (true), id_, H', ⟨by first | omega | exact Nat.le_refl _⟩, ⟨bkk⟩, ⟨bkk⟩, ⟨hbb⟩⟩
  replace c14 := Bool.eq_false_iff.mpr c14
  subst c14
  rw [if_neg (show ¬ (false = true) by decide)] at H
  by_cases c19 : t322 = true
  rotate_left
  ·replace c19 := Bool.eq_false_iff.mpr c19
   subst c19
   rw [if_neg (show ¬ (false = true) by decide)] at H
   have H' := Aside0.mk H
   clear H
   have hnb33 := NB324_330.out
   have hnc33 := NB330_324.out
   obtain ⟨_, _, _, _, _, _, _, _, _, _⟩ := bx5 BK324.out
   obtain ⟨_, _, _, _, _, _, _, _, _, _⟩ := bx5 BK330.out
   go_wp2_with (first | ((with_reducible refine gate_callee (f := 46) rfl ?_); refine gC (some 14) Tryd.func46 (latheref02_nan.calls t319 t320 t321 false t323 t325 t326 t327 t328 t329 false _ A13.out) (fun w36 hb => ?_); clear A13; replace BK324 := bks BK324 hb; replace BK330 := Aside0.mk (blk_below (g := gb330) (o := .cells #[.bool t325, .int .u64 t326, .int .i64 t327, .bool t328, .bool t329] 62 (0, 0)) (by (with_reducible repeat (first | refine blk_drewN ?_ _ | refine blk_drew ?_ | refine blk_alloc ?_ _)); refine blk_put (cs := #[.bool t325, .int .u64 t326, .int .i64 t327, .bool t328, .bool false]) ?_ 4 _ rfl; (with_reducible repeat (first | refine blk_drewN ?_ _ | refine blk_drew ?_ | refine blk_alloc ?_ _)); refine blk_put (cs := #[.bool t325, .int .u64 t326, .int .i64 t327, .bool false, .bool false]) ?_ 3 _ rfl; (with_reducible repeat (first | refine blk_drewN ?_ _ | refine blk_drew ?_ | refine blk_alloc ?_ _)); refine blk_put (cs := #[.bool t325, .int .u64 t326, .int .i64 0, .bool false, .bool false]) ?_ 2 _ rfl; (with_reducible repeat (first | refine blk_drewN ?_ _ | refine blk_drew ?_ | refine blk_alloc ?_ _)); refine blk_put (cs := #[.bool t325, .int .u64 0, .int .i64 0, .bool false, .bool false]) ?_ 1 _ rfl; (with_reducible repeat (first | refine blk_drewN ?_ _ | refine blk_drew ?_ | refine blk_alloc ?_ _)); refine blk_put (cs := #[.bool false, .int .u64 0, .int .i64 0, .bool false, .bool false]) ?_ 0 _ rfl; (with_reducible repeat (first | refine blk_drewN ?_ _ | refine blk_drew ?_ | refine blk_alloc ?_ _)); exact BK330.out) hb); replace HB := bst hb; (try clear hb); obtain ⟨_, _, _, _, _, _, _, _, _, _⟩ := bx5 BK324.out))
   go_meet
   case rel => exact ⟨_, (false), id_, H', ⟨by first | omega | exact Nat.le_refl _⟩, ⟨bkk⟩, ⟨bkk⟩, ⟨hbb⟩⟩
  subst c19
  rw [if_pos rfl] at H
  by_cases c20 : t328 = true
  ·subst c20
   rw [if_pos rfl] at H
   have H' := Aside0.mk H
   clear H
   have hnb21 := NB324_330.out
   have hnc21 := NB330_324.out
   obtain ⟨_, _, _, _, _, _, _, _, _, _⟩ := bx5 BK324.out
   obtain ⟨_, _, _, _, _, _, _, _, _, _⟩ := bx5 BK330.out
   go_wp2_with (first | ((with_reducible refine gate_callee (f := 46) rfl ?_); refine gC (some 14) Tryd.func46 (latheref02_nan.calls t319 t320 t321 true t323 t325 t326 t327 true t329 false _ A13.out) (fun w24 hb => ?_); clear A13; replace BK324 := bks BK324 hb; replace BK330 := Aside0.mk (blk_below (g := gb330) (o := .cells #[.bool t325, .int .u64 t326, .int .i64 t327, .bool true, .bool t329] 62 (0, 0)) (by (with_reducible repeat (first | refine blk_drewN ?_ _ | refine blk_drew ?_ | refine blk_alloc ?_ _)); refine blk_put (cs := #[.bool t325, .int .u64 t326, .int .i64 t327, .bool true, .bool false]) ?_ 4 _ rfl; (with_reducible repeat (first | refine blk_drewN ?_ _ | refine blk_drew ?_ | refine blk_alloc ?_ _)); refine blk_put (cs := #[.bool t325, .int .u64 t326, .int .i64 t327, .bool false, .bool false]) ?_ 3 _ rfl; (with_reducible repeat (first | refine blk_drewN ?_ _ | refine blk_drew ?_ | refine blk_alloc ?_ _)); refine blk_put (cs := #[.bool t325, .int .u64 t326, .int .i64 0, .bool false, .bool false]) ?_ 2 _ rfl; (with_reducible repeat (first | refine blk_drewN ?_ _ | refine blk_drew ?_ | refine blk_alloc ?_ _)); refine blk_put (cs := #[.bool t325, .int .u64 0, .int .i64 0, .bool false, .bool false]) ?_ 1 _ rfl; (with_reducible repeat (first | refine blk_drewN ?_ _ | refine blk_drew ?_ | refine blk_alloc ?_ _)); refine blk_put (cs := #[.bool false, .int .u64 0, .int .i64 0, .bool false, .bool false]) ?_ 0 _ rfl; (with_reducible repeat (first | refine blk_drewN ?_ _ | refine blk_drew ?_ | refine blk_alloc ?_ _)); exact BK330.out) hb); replace HB := bst hb; (try clear hb); obtain ⟨_, _, _, _, _, _, _, _, _, _⟩ := bx5 BK324.out; obtain ⟨_, _, _, _, _, _, _, _, _, _⟩ := bx5 BK330.out))
   go_meet
   case rel => exact ⟨_, ((t319 != t325)), id_, H', ⟨by first | omega | exact Nat.le_refl _⟩, ⟨bkk⟩, ⟨bkk⟩, ⟨hbb⟩⟩
  replace c20 := Bool.eq_false_iff.mpr c20
  subst c20
  rw [if_neg (show ¬ (false = true) by decide)] at H
  have H' := Aside0.mk H
  clear H
  have hnb27 := NB324_330.out
  have hnc27 := NB330_324.out
  obtain ⟨_, _, _, _, _, _, _, _, _, _⟩ := bx5 BK324.out
  obtain ⟨_, _, _, _, _, _, _, _, _, _⟩ := bx5 BK330.out
  go_wp2_with (first | ((with_reducible refine gate_callee (f := 46) rfl ?_); refine gC (some 14) Tryd.func46 (latheref02_nan.calls t319 t320 t321 true t323 t325 t326 t327 false t329 false _ A13.out) (fun w30 hb => ?_); clear A13; replace BK324 := bks BK324 hb; replace BK330 := Aside0.mk (blk_below (g := gb330) (o := .cells #[.bool t325, .int .u64 t326, .int .i64 t327, .bool false, .bool t329] 62 (0, 0)) (by (with_reducible repeat (first | refine blk_drewN ?_ _ | refine blk_drew ?_ | refine blk_alloc ?_ _)); refine blk_put (cs := #[.bool t325, .int .u64 t326, .int .i64 t327, .bool false, .bool false]) ?_ 4 _ rfl; (with_reducible repeat (first | refine blk_drewN ?_ _ | refine blk_drew ?_ | refine blk_alloc ?_ _)); refine blk_put (cs := #[.bool t325, .int .u64 t326, .int .i64 t327, .bool false, .bool false]) ?_ 3 _ rfl; (with_reducible repeat (first | refine blk_drewN ?_ _ | refine blk_drew ?_ | refine blk_alloc ?_ _)); refine blk_put (cs := #[.bool t325, .int .u64 t326, .int .i64 0, .bool false, .bool false]) ?_ 2 _ rfl; (with_reducible repeat (first | refine blk_drewN ?_ _ | refine blk_drew ?_ | refine blk_alloc ?_ _)); refine blk_put (cs := #[.bool t325, .int .u64 0, .int .i64 0, .bool false, .bool false]) ?_ 1 _ rfl; (with_reducible repeat (first | refine blk_drewN ?_ _ | refine blk_drew ?_ | refine blk_alloc ?_ _)); refine blk_put (cs := #[.bool false, .int .u64 0, .int .i64 0, .bool false, .bool false]) ?_ 0 _ rfl; (with_reducible repeat (first | refine blk_drewN ?_ _ | refine blk_drew ?_ | refine blk_alloc ?_ _)); exact BK330.out) hb); replace HB := bst hb; (try clear hb); obtain ⟨_, _, _, _, _, _, _, _, _, _⟩ := bx5 BK324.out; obtain ⟨_, _, _, _, _, _, _, _, _, _⟩ := bx5 BK330.out))
  go_meet
  case rel => exact ⟨_, (false), id_, H', ⟨by first | omega | exact Nat.le_refl _⟩, ⟨bkk⟩, ⟨bkk⟩, ⟨hbb⟩⟩
 case rest =>
  clear HC5
  obtain ⟨kq, x11_4, rfl, HA, HJ4, BK324, BK330, HB⟩ := hcut
  cases kq with
  | zero => exact absurd HA.out (by simp [latheref02_Add.j0])
  | succ kj4 =>
   have H := HA.out
   clear HA
   simp only [latheref02_Add.j0] at H
   by_cases c38 : x11_4 = true
   ·subst c38
    rw [if_pos rfl] at H
    obtain rfl := Option.some.inj H
    go_wp2
    go_ret
    exact fin_
   replace c38 := Bool.eq_false_iff.mpr c38
   subst c38
   rw [if_neg (show ¬ (false = true) by decide)] at H
   by_cases c39 : t322 = true
   ·subst c39
    rw [if_pos rfl] at H
    replace H := Option.bind_eq_some_iff.mp H
    obtain ⟨t332, A400, H⟩ := H
    have A40 := Aside0.mk A400
    clear A400
    obtain rfl := Option.some.inj H
    have hnb41 := NB324_330.out
    have hnc41 := NB330_324.out
    obtain ⟨_, _, _, _, _, _, _, _, _, _⟩ := bx5 BK324.out
    go_wp2_with (first | ((with_reducible refine gate_callee (f := 50) rfl ?_); refine gL (some 35) Tryd.func50 #[.bool t319] ?_; (with_reducible refine (latheref02_infinite.calls t319 t332 _ A40.out).mono ?_); clear A40; rintro e w' ⟨rfl, ⟨nd, rfl⟩⟩; refine ⟨_, rfl, ?_⟩))
    go_ret
    exact fin_
   replace c39 := Bool.eq_false_iff.mpr c39
   subst c39
   rw [if_neg (show ¬ (false = true) by decide)] at H
   by_cases c43 : t328 = true
   ·subst c43
    rw [if_pos rfl] at H
    replace H := Option.bind_eq_some_iff.mp H
    obtain ⟨t333, A440, H⟩ := H
    have A44 := Aside0.mk A440
    clear A440
    obtain rfl := Option.some.inj H
    have hnb45 := NB324_330.out
    have hnc45 := NB330_324.out
    obtain ⟨_, _, _, _, _, _, _, _, _, _⟩ := bx5 BK324.out
    obtain ⟨_, _, _, _, _, _, _, _, _, _⟩ := bx5 BK330.out
    go_wp2_with (first | ((with_reducible refine gate_callee (f := 50) rfl ?_); refine gL (some 41) Tryd.func50 #[.bool t325] ?_; (with_reducible refine (latheref02_infinite.calls t325 t333 _ A44.out).mono ?_); clear A44; rintro e w' ⟨rfl, ⟨nd, rfl⟩⟩; refine ⟨_, rfl, ?_⟩))
    go_ret
    exact fin_
   replace c43 := Bool.eq_false_iff.mpr c43
   subst c43
   rw [if_neg (show ¬ (false = true) by decide)] at H
   have HC48 := Aside0.mk H
   clear H
   have hnb49 := NB324_330.out
   have hnc49 := NB330_324.out
   obtain ⟨_, _, _, _, _, _, _, _, _, _⟩ := bx5 BK324.out
   obtain ⟨_, _, _, _, _, _, _, _, _, _⟩ := bx5 BK330.out
   go_upto_region 9 with (fail)
   go_cut [42] (fun v42 wc => ∃ (kq : Nat) (x42_47 : Bool), v42 = .bool x42_47 ∧ Aside0 (latheref02_Add.j1 kq x42_47 t319 t320 t321 false t323 t325 t326 t327 false t329 = some r) ∧ Aside0 (kq ≤ kj4) ∧ Aside0 (wc.heap[gb324]? = some (.cells #[.bool t319, .int .u64 t320, .int .i64 t321, .bool false, .bool t323] 62 (0, 0))) ∧ Aside0 (wc.heap[gb330]? = some (.cells #[.bool t325, .int .u64 t326, .int .i64 t327, .bool false, .bool t329] 62 (0, 0))) ∧ Aside0 (Below w.heap.size w wc))
   case first =>
    have H := HC48.out
    clear HC48
    by_cases c52 : t320 = 0
    ·rw [if_pos c52] at H
     have c52b0 : (t320 == 0) = true := beq_iff_eq.mpr c52
     have c52b1 : (t320 != 0) = false := bne_eq_false_iff_eq.mpr c52
     clear c52
     (first | rw [c52b0] | (simp only [i64_w, i32_w]; rw [c52b0]) | skip)
     have H' := Aside0.mk H
     clear H
     have hnb53 := NB324_330.out
     have hnc53 := NB330_324.out
     obtain ⟨_, _, _, _, _, _, _, _, _, _⟩ := bx5 BK324.out
     obtain ⟨_, _, _, _, _, _, _, _, _, _⟩ := bx5 BK330.out
     go_wp2
     go_meet
     case rel => exact ⟨_, ((t326 == 0)), id_, H', ⟨by have := HJ4.out; first | omega | exact Nat.le_refl _⟩, ⟨bkk⟩, ⟨bkk⟩, ⟨hbb⟩⟩
    rw [if_neg c52] at H
    have c52b0 : (t320 == 0) = false := beq_eq_false_iff_ne.mpr c52
    have c52b1 : (t320 != 0) = true := bne_iff_ne.mpr c52
    (first | rw [c52b0] | (simp only [i64_w, i32_w]; rw [c52b0]) | skip)
    have H' := Aside0.mk H
    clear H
    have hnb56 := NB324_330.out
    have hnc56 := NB330_324.out
    obtain ⟨_, _, _, _, _, _, _, _, _, _⟩ := bx5 BK324.out
    go_wp2
    go_meet
    case rel => exact ⟨_, (false), id_, H', ⟨by have := HJ4.out; first | omega | exact Nat.le_refl _⟩, ⟨bkk⟩, ⟨bkk⟩, ⟨hbb⟩⟩
   case rest =>
    clear HC48
    obtain ⟨kq, x42_47, rfl, HA, HJ47, BK324, BK330, HB⟩ := hcut
    cases kq with
    | zero => exact absurd HA.out (by simp [latheref02_Add.j1])
    | succ kj47 =>
     have H := HA.out
     clear HA
     simp only [latheref02_Add.j1] at H
     by_cases c58 : x42_47 = true
     ·subst c58
      rw [if_pos rfl] at H
      by_cases c59 : t319 = true
      ·subst c59
       rw [if_pos rfl] at H
       replace H := Option.bind_eq_some_iff.mp H
       obtain ⟨t334, A600, H⟩ := H
       have A60 := Aside0.mk A600
       clear A600
       obtain rfl := Option.some.inj H
       have hnb61 := NB324_330.out
       have hnc61 := NB330_324.out
       obtain ⟨_, _, _, _, _, _, _, _, _, _⟩ := bx5 BK324.out
       obtain ⟨_, _, _, _, _, _, _, _, _, _⟩ := bx5 BK330.out
       go_wp2_with (first | ((with_reducible refine gate_callee (f := 51) rfl ?_); refine gL (some 57) Tryd.func51 #[.bool t325] ?_; (with_reducible refine (latheref02_zero.calls t325 t334 _ A60.out).mono ?_); clear A60; rintro e w' ⟨rfl, ⟨nd, rfl⟩⟩; refine ⟨_, rfl, ?_⟩))
       go_ret
       exact fin_
      replace c59 := Bool.eq_false_iff.mpr c59
      subst c59
      rw [if_neg (show ¬ (false = true) by decide)] at H
      replace H := Option.bind_eq_some_iff.mp H
      obtain ⟨t335, A640, H⟩ := H
      have A64 := Aside0.mk A640
      clear A640
      obtain rfl := Option.some.inj H
      have hnb65 := NB324_330.out
      have hnc65 := NB330_324.out
      obtain ⟨_, _, _, _, _, _, _, _, _, _⟩ := bx5 BK324.out
      go_wp2_with (first | ((with_reducible refine gate_callee (f := 51) rfl ?_); refine gL (some 57) Tryd.func51 #[.bool false] ?_; (with_reducible refine (latheref02_zero.calls false t335 _ A64.out).mono ?_); clear A64; rintro e w' ⟨rfl, ⟨nd, rfl⟩⟩; refine ⟨_, rfl, ?_⟩))
      go_ret
      exact fin_
     replace c58 := Bool.eq_false_iff.mpr c58
     subst c58
     rw [if_neg (show ¬ (false = true) by decide)] at H
     by_cases c67 : t320 = 0
     ·rw [if_pos c67] at H
      have c67b0 : (t320 == 0) = true := beq_iff_eq.mpr c67
      have c67b1 : (t320 != 0) = false := bne_eq_false_iff_eq.mpr c67
      clear c67
      replace H := Option.bind_eq_some_iff.mp H
      obtain ⟨t336, A680, H⟩ := H
      have A68 := Aside0.mk A680
      clear A680
      obtain rfl := Option.some.inj H
      have hnb69 := NB324_330.out
      have hnc69 := NB330_324.out
      obtain ⟨_, _, _, _, _, _, _, _, _, _⟩ := bx5 BK324.out
      obtain ⟨_, _, _, _, _, _, _, _, _, _⟩ := bx5 BK330.out
      go_wp2_with (first | ((with_reducible refine gate_callee (f := 52) rfl ?_); refine gC (some 68) Tryd.func52 (latheref02_Round.calls kj47 t325 t326 t327 t336 _ A68.out) (fun w72 hb => ?_); clear A68; replace BK324 := bks BK324 hb; replace BK330 := bks BK330 hb; replace HB := bst hb; (try clear hb)))
      go_ret
      exact fin_
     rw [if_neg c67] at H
     have c67b0 : (t320 == 0) = false := beq_eq_false_iff_ne.mpr c67
     have c67b1 : (t320 != 0) = true := bne_iff_ne.mpr c67
     by_cases c73 : t326 = 0
     ·rw [if_pos c73] at H
      have c73b0 : (t326 == 0) = true := beq_iff_eq.mpr c73
      have c73b1 : (t326 != 0) = false := bne_eq_false_iff_eq.mpr c73
      clear c73
      replace H := Option.bind_eq_some_iff.mp H
      obtain ⟨t337, A740, H⟩ := H
      have A74 := Aside0.mk A740
      clear A740
      obtain rfl := Option.some.inj H
      have hnb75 := NB324_330.out
      have hnc75 := NB330_324.out
      obtain ⟨_, _, _, _, _, _, _, _, _, _⟩ := bx5 BK324.out
      obtain ⟨_, _, _, _, _, _, _, _, _, _⟩ := bx5 BK330.out
      go_wp2_with (first | ((with_reducible refine gate_callee (f := 52) rfl ?_); refine gC (some 79) Tryd.func52 (latheref02_Round.calls kj47 t319 t320 t321 t337 _ A74.out) (fun w78 hb => ?_); clear A74; replace BK324 := bks BK324 hb; replace BK330 := bks BK330 hb; replace HB := bst hb; (try clear hb)))
      go_ret
      exact fin_
     rw [if_neg c73] at H
     have c73b0 : (t326 == 0) = false := beq_eq_false_iff_ne.mpr c73
     have c73b1 : (t326 != 0) = true := bne_iff_ne.mpr c73
     by_cases c79 : t321 < t327
     ·rw [if_pos c79] at H
      have c79b0 := decide_eq_true c79
      clear c79
      replace H := Option.bind_eq_some_iff.mp H
      obtain ⟨t338, A800, H⟩ := H
      have A80 := Aside0.mk A800
      clear A800
      obtain rfl := Option.some.inj H
      have hnb81 := NB324_330.out
      have hnc81 := NB330_324.out
      obtain ⟨_, _, _, _, _, _, _, _, _, _⟩ := bx5 BK324.out
      obtain ⟨_, _, _, _, _, _, _, _, _, _⟩ := bx5 BK330.out
      go_wp2_with (first | ((with_reducible refine gate_callee (f := 53) rfl ?_); refine gC (some 89) Tryd.func53 (latheref02_sum.calls kj47 t325 t326 t327 false t329 t319 t320 t321 false t323 t338 _ A80.out) (fun w84 hb => ?_); clear A80; replace BK324 := Aside0.mk (blk_below (g := gb324) (o := .cells #[.bool t325, .int .u64 t326, .int .i64 t327, .bool false, .bool t329] 62 (0, 0)) (by (with_reducible repeat (first | refine blk_drewN ?_ _ | refine blk_drew ?_ | refine blk_alloc ?_ _)); refine blk_far ?_ NB324_330.out _; (with_reducible repeat (first | refine blk_drewN ?_ _ | refine blk_drew ?_ | refine blk_alloc ?_ _)); refine blk_far ?_ NB324_330.out _; (with_reducible repeat (first | refine blk_drewN ?_ _ | refine blk_drew ?_ | refine blk_alloc ?_ _)); refine blk_far ?_ NB324_330.out _; (with_reducible repeat (first | refine blk_drewN ?_ _ | refine blk_drew ?_ | refine blk_alloc ?_ _)); refine blk_far ?_ NB324_330.out _; (with_reducible repeat (first | refine blk_drewN ?_ _ | refine blk_drew ?_ | refine blk_alloc ?_ _)); refine blk_far ?_ NB324_330.out _; (with_reducible repeat (first | refine blk_drewN ?_ _ | refine blk_drew ?_ | refine blk_alloc ?_ _)); refine blk_put (cs := #[.bool t325, .int .u64 t326, .int .i64 t327, .bool false, .bool t323]) ?_ 4 _ rfl; (with_reducible repeat (first | refine blk_drewN ?_ _ | refine blk_drew ?_ | refine blk_alloc ?_ _)); refine blk_put (cs := #[.bool t325, .int .u64 t326, .int .i64 t327, .bool false, .bool t323]) ?_ 3 _ rfl; (with_reducible repeat (first | refine blk_drewN ?_ _ | refine blk_drew ?_ | refine blk_alloc ?_ _)); refine blk_put (cs := #[.bool t325, .int .u64 t326, .int .i64 t321, .bool false, .bool t323]) ?_ 2 _ rfl; (with_reducible repeat (first | refine blk_drewN ?_ _ | refine blk_drew ?_ | refine blk_alloc ?_ _)); refine blk_put (cs := #[.bool t325, .int .u64 t320, .int .i64 t321, .bool false, .bool t323]) ?_ 1 _ rfl; (with_reducible repeat (first | refine blk_drewN ?_ _ | refine blk_drew ?_ | refine blk_alloc ?_ _)); refine blk_put (cs := #[.bool t319, .int .u64 t320, .int .i64 t321, .bool false, .bool t323]) ?_ 0 _ rfl; (with_reducible repeat (first | refine blk_drewN ?_ _ | refine blk_drew ?_ | refine blk_alloc ?_ _)); exact BK324.out) hb); replace BK330 := Aside0.mk (blk_below (g := gb330) (o := .cells #[.bool t319, .int .u64 t320, .int .i64 t321, .bool false, .bool t323] 62 (0, 0)) (by (with_reducible repeat (first | refine blk_drewN ?_ _ | refine blk_drew ?_ | refine blk_alloc ?_ _)); refine blk_put (cs := #[.bool t319, .int .u64 t320, .int .i64 t321, .bool false, .bool t329]) ?_ 4 _ rfl; (with_reducible repeat (first | refine blk_drewN ?_ _ | refine blk_drew ?_ | refine blk_alloc ?_ _)); refine blk_put (cs := #[.bool t319, .int .u64 t320, .int .i64 t321, .bool false, .bool t329]) ?_ 3 _ rfl; (with_reducible repeat (first | refine blk_drewN ?_ _ | refine blk_drew ?_ | refine blk_alloc ?_ _)); refine blk_put (cs := #[.bool t319, .int .u64 t320, .int .i64 t327, .bool false, .bool t329]) ?_ 2 _ rfl; (with_reducible repeat (first | refine blk_drewN ?_ _ | refine blk_drew ?_ | refine blk_alloc ?_ _)); refine blk_put (cs := #[.bool t319, .int .u64 t326, .int .i64 t327, .bool false, .bool t329]) ?_ 1 _ rfl; (with_reducible repeat (first | refine blk_drewN ?_ _ | refine blk_drew ?_ | refine blk_alloc ?_ _)); refine blk_put (cs := #[.bool t325, .int .u64 t326, .int .i64 t327, .bool false, .bool t329]) ?_ 0 _ rfl; (with_reducible repeat (first | refine blk_drewN ?_ _ | refine blk_drew ?_ | refine blk_alloc ?_ _)); refine blk_far ?_ NB330_324.out _; (with_reducible repeat (first | refine blk_drewN ?_ _ | refine blk_drew ?_ | refine blk_alloc ?_ _)); refine blk_far ?_ NB330_324.out _; (with_reducible repeat (first | refine blk_drewN ?_ _ | refine blk_drew ?_ | refine blk_alloc ?_ _)); refine blk_far ?_ NB330_324.out _; (with_reducible repeat (first | refine blk_drewN ?_ _ | refine blk_drew ?_ | refine blk_alloc ?_ _)); refine blk_far ?_ NB330_324.out _; (with_reducible repeat (first | refine blk_drewN ?_ _ | refine blk_drew ?_ | refine blk_alloc ?_ _)); refine blk_far ?_ NB330_324.out _; (with_reducible repeat (first | refine blk_drewN ?_ _ | refine blk_drew ?_ | refine blk_alloc ?_ _)); exact BK330.out) hb); replace HB := bst hb; (try clear hb)))
      go_ret
      exact fin_
     rw [if_neg c79] at H
     have c79b0 := decide_eq_false c79
     clear c79
     replace H := Option.bind_eq_some_iff.mp H
     obtain ⟨t339, A850, H⟩ := H
     have A85 := Aside0.mk A850
     clear A850
     obtain rfl := Option.some.inj H
     have hnb86 := NB324_330.out
     have hnc86 := NB330_324.out
     obtain ⟨_, _, _, _, _, _, _, _, _, _⟩ := bx5 BK324.out
     obtain ⟨_, _, _, _, _, _, _, _, _, _⟩ := bx5 BK330.out
     go_wp2_with (first | ((with_reducible refine gate_callee (f := 53) rfl ?_); refine gC (some 89) Tryd.func53 (latheref02_sum.calls kj47 t319 t320 t321 false t323 t325 t326 t327 false t329 t339 _ A85.out) (fun w89 hb => ?_); clear A85; replace BK324 := bks BK324 hb; replace BK330 := bks BK330 hb; replace HB := bst hb; (try clear hb)))
     go_ret
     exact fin_

end Go.Proofs.YtmfladkimmnccaaDoor.PW
namespace Go.Proofs.YtmfladkimmnccaaDoor.PW
open Go.RowKit Go.Proofs.YtmfladkimmnccaaDoorW.PrintWords Go.Proofs.YtmfladkimmnccaaDoorW.PrintLast Go.Proofs.YtmfladkimmnccaaDoorW.PrintMore Go.Proofs.YtmfladkimmnccaaDoor.Sht
attribute [local go_sem] max2_int min2_int max_two min_two max_three min_three max_four min_four   -- for this text's walks alone
set_option linter.unusedVariables false
set_option linter.unusedSimpArgs false

/-! ### latheref02_Sub: function 22 -/
def latheref02_Sub.f (k : Nat) (a0 : Int) (a1 : Int) : Option (Int) := (latheref02_Neg.f a1).bind fun t340 => ((latheref02_Add.f k a0 t340).bind fun t341 => (some t341))
theorem latheref02_Sub.mono : ∀ a0 a1 k, LeO (latheref02_Sub.f k a0 a1) (latheref02_Sub.f (k + 1) a0 a1) := by
 intro a0 a1 k
 unfold latheref02_Sub.f
 repeat' with_reducible first
  | exact latheref02_Add.mono _ _ _
  | exact LeO.refl _
  | exact LeO.none _
  | refine LeO.ite ?_ ?_
  | refine LeO.bind ?_ (fun _ => ?_)
set_option maxHeartbeats 8000000 in
set_option maxRecDepth 100000 in
theorem latheref02_Sub.calls (k : Nat) (a0 : Int) (a1 : Int) (r : Int) (w : World) (h : latheref02_Sub.f k a0 a1 = some r) :
  Calls Tryd.prog 22 #[.int .i64 a0, .int .i64 a1] w fun e w' => e = .returned (.int .i64 r) ∧ Below w.heap.size w w' := by
 have HB := Aside0.mk (Below.refl w.heap.size w)
 have H : ((latheref02_Neg.f a1).bind fun t340 => ((latheref02_Add.f k a0 t340).bind fun t341 => (some t341))) = some r := h
 clear h
 replace H := Option.bind_eq_some_iff.mp H
 obtain ⟨t340, A30, H⟩ := H
 have A3 := Aside0.mk A30
 clear A30
 replace H := Option.bind_eq_some_iff.mp H
 obtain ⟨t341, A40, H⟩ := H
 have A4 := Aside0.mk A40
 clear A40
 obtain rfl := Option.some.inj H
 go_enter Tryd.func22, Tryd.ntmps22
 go_wp2_with (first | ((with_reducible refine gate_callee (f := 23) rfl ?_); refine gC (some 7) Tryd.func23 (latheref02_Neg.calls a1 t340 _ A3.out) (fun w5 hb => ?_); clear A3; replace HB := bst hb; (try clear hb)) | ((with_reducible refine gate_callee (f := 26) rfl ?_); refine gC (some 8) Tryd.func26 (latheref02_Add.calls k a0 t340 t341 _ A4.out) (fun w6 hb => ?_); clear A4; replace HB := bst hb; (try clear hb)))
 go_ret
 exact fin_

end Go.Proofs.YtmfladkimmnccaaDoor.PW
