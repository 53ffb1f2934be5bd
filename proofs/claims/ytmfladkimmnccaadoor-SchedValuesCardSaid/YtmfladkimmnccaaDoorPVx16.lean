/- The functions of the program that a statement reaches, as plain functions, and that the machine's calls do what these say. No condition. (Printed by a program.) -/
import Derived.Test.YtmfladkimmnccaaDoorPWx0
import Derived.Test.YtmfladkimmnccaaDoorWal
import Derived.Test.YtmfladkimmnccaaDoorPVx5
import Derived.Test.YtmfladkimmnccaaDoorPVx8
import Derived.Test.YtmfladkimmnccaaDoorPVx10
namespace Go.Proofs.YtmfladkimmnccaaDoor.PW
open Go.RowKit Go.Proofs.YtmfladkimmnccaaDoorW.PrintWords Go.Proofs.YtmfladkimmnccaaDoorW.PrintLast Go.Proofs.YtmfladkimmnccaaDoorW.PrintMore Go.Proofs.YtmfladkimmnccaaDoor.Sht
attribute [local go_sem] max2_int min2_int max_two min_two max_three min_three max_four min_four   -- for this text's walks alone
set_option linter.unusedVariables false
set_option linter.unusedSimpArgs false

/-! ### latheref02_up: function 78 (given) -/
def latheref02_up.f (a0_0 : Bool) (a0_1 : Int) (a0_2 : Int) (a0_3 : Bool) (a0_4 : Bool) : Option (Bool × Int × Int × Bool × Bool) := if 1 ≤ a0_1 ∧ a0_1 < 16777216 ∧ -100000 ≤ a0_2 ∧ a0_2 ≤ 100000 then some (a0_0, a0_1 * 2 ^ (23 - a0_1.toNat.log2), a0_2 - ((23 - a0_1.toNat.log2 : Nat) : Int), a0_3, a0_4) else none
theorem latheref02_up.calls (a0_0 : Bool) (a0_1 : Int) (a0_2 : Int) (a0_3 : Bool) (a0_4 : Bool) (r1 : Bool) (r2 : Int) (r3 : Int) (r4 : Bool) (r5 : Bool) (w : World) (h : latheref02_up.f a0_0 a0_1 a0_2 a0_3 a0_4 = some (r1, r2, r3, r4, r5)) :
  Calls Tryd.prog 78 #[.agg #[.bool a0_0, .int .u64 a0_1, .int .i64 a0_2, .bool a0_3, .bool a0_4]] w fun e w' => e = .returned (.agg #[.bool r1, .int .u64 r2, .int .i64 r3, .bool r4, .bool r5]) ∧ Below w.heap.size w w' := by
 unfold latheref02_up.f at h
 split at h
 case isFalse => cases h
 rename_i g
 have h := Option.some.inj h
 simp only [Prod.mk.injEq] at h
 obtain ⟨rfl, rfl, rfl, rfl, rfl⟩ := h
 exact Reg.up_given a0_0 a0_1 a0_2 a0_3 a0_4 w g.1 g.2.1 g.2.2.1 g.2.2.2

end Go.Proofs.YtmfladkimmnccaaDoor.PW
namespace Go.Proofs.YtmfladkimmnccaaDoor.PW
open Go.RowKit Go.Proofs.YtmfladkimmnccaaDoorW.PrintWords Go.Proofs.YtmfladkimmnccaaDoorW.PrintLast Go.Proofs.YtmfladkimmnccaaDoorW.PrintMore Go.Proofs.YtmfladkimmnccaaDoor.Sht
attribute [local go_sem] max2_int min2_int max_two min_two max_three min_three max_four min_four   -- for this text's walks alone
set_option linter.unusedVariables false
set_option linter.unusedSimpArgs false

/-! ### latheref02_Div: function 58 -/
mutual
def latheref02_Div.j0 : Nat → Bool → Bool → Bool → Int → Int → Bool → Bool → Bool → Int → Int → Bool → Bool → Option (Int)
 | 0, _, _, _, _, _, _, _, _, _, _, _, _ => none
 | k + 1, x7, x20, x408000, x408001, x408002, x408003, x408004, x414000, x414001, x414002, x414003, x414004 => if x20 = true then (some 2143289344) else (if x408003 = true then (latheref02_Div.j1 k x7 true x408000 x408001 x408002 x408003 x408004 x414000 x414001 x414002 x414003 x414004) else (if x414003 = true then (latheref02_Div.j1 k x7 false x408000 x408001 x408002 x408003 x408004 x414000 x414001 x414002 x414003 x414004) else (latheref02_Div.j1 k x7 (x414001 == 0) x408000 x408001 x408002 x408003 x408004 x414000 x414001 x414002 x414003 x414004)))
def latheref02_Div.j1 : Nat → Bool → Bool → Bool → Int → Int → Bool → Bool → Bool → Int → Int → Bool → Bool → Option (Int)
 | 0, _, _, _, _, _, _, _, _, _, _, _, _ => none
 | k + 1, x7, x52, x408000, x408001, x408002, x408003, x408004, x414000, x414001, x414002, x414003, x414004 => if x52 = true then ((latheref02_infinite.f x7).bind fun t415 => (some t415)) else (if x414003 = true then ((latheref02_zero.f x7).bind fun t416 => (some t416)) else (if x408001 = 0 then ((latheref02_zero.f x7).bind fun t417 => (some t417)) else ((latheref02_up.f x408000 x408001 x408002 x408003 x408004).bind fun bt418 => ((latheref02_up.f x414000 x414001 x414002 x414003 x414004).bind fun bt423 => (if bt423.2.1 = 0 then (none) else (if (Int.tmod (IntKind.u64.wrap (bt418.2.1 * 274877906944)) bt423.2.1) > 0 then ((latheref02_Round.f k x7 (IntKind.u64.wrap ((IntKind.u64.wrap ((IntKind.u64.wrap (Int.tdiv (IntKind.u64.wrap (bt418.2.1 * 274877906944)) bt423.2.1)) * 2)) + 1)) (wrap64 ((wrap64 (bt418.2.2.1 - bt423.2.2.1)) - 39))).bind fun t428 => (some t428)) else ((latheref02_Round.f k x7 (IntKind.u64.wrap ((IntKind.u64.wrap (Int.tdiv (IntKind.u64.wrap (bt418.2.1 * 274877906944)) bt423.2.1)) * 2)) (wrap64 ((wrap64 (bt418.2.2.1 - bt423.2.2.1)) - 39))).bind fun t429 => (some t429))))))))
end
def latheref02_Div.f (k : Nat) (a0 : Int) (a1 : Int) : Option (Int) := (latheref02_Of.f a0).bind fun bt402 => ((latheref02_Of.f a1).bind fun bt408 => ((latheref02_nan.f bt402.1 bt402.2.1 bt402.2.2.1 bt402.2.2.2.1 bt402.2.2.2.2 bt408.1 bt408.2.1 bt408.2.2.1 bt408.2.2.2.1 bt408.2.2.2.2).bind fun t414 => (if t414 = true then (latheref02_Div.j0 k (bt402.1 != bt408.1) true bt402.1 bt402.2.1 bt402.2.2.1 bt402.2.2.2.1 bt402.2.2.2.2 bt408.1 bt408.2.1 bt408.2.2.1 bt408.2.2.2.1 bt408.2.2.2.2) else (if bt402.2.2.2.1 = true then (if bt408.2.2.2.1 = true then (latheref02_Div.j0 k (bt402.1 != bt408.1) true bt402.1 bt402.2.1 bt402.2.2.1 bt402.2.2.2.1 bt402.2.2.2.2 bt408.1 bt408.2.1 bt408.2.2.1 bt408.2.2.2.1 bt408.2.2.2.2) else (latheref02_Div.j0 k (bt402.1 != bt408.1) false bt402.1 bt402.2.1 bt402.2.2.1 bt402.2.2.2.1 bt402.2.2.2.2 bt408.1 bt408.2.1 bt408.2.2.1 bt408.2.2.2.1 bt408.2.2.2.2)) else (if bt408.2.2.2.1 = true then (latheref02_Div.j0 k (bt402.1 != bt408.1) false bt402.1 bt402.2.1 bt402.2.2.1 bt402.2.2.2.1 bt402.2.2.2.2 bt408.1 bt408.2.1 bt408.2.2.1 bt408.2.2.2.1 bt408.2.2.2.2) else (if bt402.2.1 = 0 then (latheref02_Div.j0 k (bt402.1 != bt408.1) (bt408.2.1 == 0) bt402.1 bt402.2.1 bt402.2.2.1 bt402.2.2.2.1 bt402.2.2.2.2 bt408.1 bt408.2.1 bt408.2.2.1 bt408.2.2.2.1 bt408.2.2.2.2) else (latheref02_Div.j0 k (bt402.1 != bt408.1) false bt402.1 bt402.2.1 bt402.2.2.1 bt402.2.2.2.1 bt402.2.2.2.2 bt408.1 bt408.2.1 bt408.2.2.1 bt408.2.2.2.1 bt408.2.2.2.2)))))))
theorem latheref02_Div.mono_l : ∀ k, (∀ y0 y1 y2 y3 y4 y5 y6 y7 y8 y9 y10 y11, LeO (latheref02_Div.j0 k y0 y1 y2 y3 y4 y5 y6 y7 y8 y9 y10 y11) (latheref02_Div.j0 (k + 1) y0 y1 y2 y3 y4 y5 y6 y7 y8 y9 y10 y11)) ∧ (∀ y0 y1 y2 y3 y4 y5 y6 y7 y8 y9 y10 y11, LeO (latheref02_Div.j1 k y0 y1 y2 y3 y4 y5 y6 y7 y8 y9 y10 y11) (latheref02_Div.j1 (k + 1) y0 y1 y2 y3 y4 y5 y6 y7 y8 y9 y10 y11))
 | 0 => ⟨fun _ _ _ _ _ _ _ _ _ _ _ _ r h => by simp [latheref02_Div.j0] at h, fun _ _ _ _ _ _ _ _ _ _ _ _ r h => by simp [latheref02_Div.j1] at h⟩
 | k + 1 => by
  obtain ⟨ih0, ih1⟩ := latheref02_Div.mono_l k
  refine ⟨?_, ?_⟩ <;> intros <;> (first | unfold latheref02_Div.j0 | unfold latheref02_Div.j1)
  all_goals repeat' with_reducible first
   | exact ih0 _ _ _ _ _ _ _ _ _ _ _ _
   | exact ih1 _ _ _ _ _ _ _ _ _ _ _ _
   | exact latheref02_Round.mono _ _ _ _
   | exact LeO.refl _
   | exact LeO.none _
   | refine LeO.ite ?_ ?_
   | refine LeO.bind ?_ (fun _ => ?_)
theorem latheref02_Div.mono : ∀ a0 a1 k, LeO (latheref02_Div.f k a0 a1) (latheref02_Div.f (k + 1) a0 a1) := by
 intro a0 a1 k
 obtain ⟨ih0, ih1⟩ := latheref02_Div.mono_l k
 unfold latheref02_Div.f
 repeat' with_reducible first
  | exact ih0 _ _ _ _ _ _ _ _ _ _ _ _
  | exact ih1 _ _ _ _ _ _ _ _ _ _ _ _
  | exact latheref02_Round.mono _ _ _ _
  | exact LeO.refl _
  | exact LeO.none _
  | refine LeO.ite ?_ ?_
  | refine LeO.bind ?_ (fun _ => ?_)
set_option maxHeartbeats 8000000 in
set_option maxRecDepth 100000 in
theorem latheref02_Div.calls (k : Nat) (a0 : Int) (a1 : Int) (r : Int) (w : World) (h : latheref02_Div.f k a0 a1 = some r) :
  Calls Tryd.prog 58 #[.int .i64 a0, .int .i64 a1] w fun e w' => e = .returned (.int .i64 r) ∧ Below w.heap.size w w' := by
 have hu62 := Tryd.underlying62
 have HB := Aside0.mk (Below.refl w.heap.size w)
 have H : ((latheref02_Of.f a0).bind fun bt402 => ((latheref02_Of.f a1).bind fun bt408 => ((latheref02_nan.f bt402.1 bt402.2.1 bt402.2.2.1 bt402.2.2.2.1 bt402.2.2.2.2 bt408.1 bt408.2.1 bt408.2.2.1 bt408.2.2.2.1 bt408.2.2.2.2).bind fun t414 => (if t414 = true then (latheref02_Div.j0 k (bt402.1 != bt408.1) true bt402.1 bt402.2.1 bt402.2.2.1 bt402.2.2.2.1 bt402.2.2.2.2 bt408.1 bt408.2.1 bt408.2.2.1 bt408.2.2.2.1 bt408.2.2.2.2) else (if bt402.2.2.2.1 = true then (if bt408.2.2.2.1 = true then (latheref02_Div.j0 k (bt402.1 != bt408.1) true bt402.1 bt402.2.1 bt402.2.2.1 bt402.2.2.2.1 bt402.2.2.2.2 bt408.1 bt408.2.1 bt408.2.2.1 bt408.2.2.2.1 bt408.2.2.2.2) else (latheref02_Div.j0 k (bt402.1 != bt408.1) false bt402.1 bt402.2.1 bt402.2.2.1 bt402.2.2.2.1 bt402.2.2.2.2 bt408.1 bt408.2.1 bt408.2.2.1 bt408.2.2.2.1 bt408.2.2.2.2)) else (if bt408.2.2.2.1 = true then (latheref02_Div.j0 k (bt402.1 != bt408.1) false bt402.1 bt402.2.1 bt402.2.2.1 bt402.2.2.2.1 bt402.2.2.2.2 bt408.1 bt408.2.1 bt408.2.2.1 bt408.2.2.2.1 bt408.2.2.2.2) else (if bt402.2.1 = 0 then (latheref02_Div.j0 k (bt402.1 != bt408.1) (bt408.2.1 == 0) bt402.1 bt402.2.1 bt402.2.2.1 bt402.2.2.2.1 bt402.2.2.2.2 bt408.1 bt408.2.1 bt408.2.2.1 bt408.2.2.2.1 bt408.2.2.2.2) else (latheref02_Div.j0 k (bt402.1 != bt408.1) false bt402.1 bt402.2.1 bt402.2.2.1 bt402.2.2.2.1 bt402.2.2.2.2 bt408.1 bt408.2.1 bt408.2.2.1 bt408.2.2.2.1 bt408.2.2.2.2)))))))) = some r := h
 clear h
 replace H := Option.bind_eq_some_iff.mp H
 obtain ⟨⟨t402, t403, t404, t405, t406⟩, A30, H⟩ := H
 have A3 := Aside0.mk A30
 clear A30
 replace H := Option.bind_eq_some_iff.mp H
 obtain ⟨⟨t408, t409, t410, t411, t412⟩, A40, H⟩ := H
 have A4 := Aside0.mk A40
 clear A40
 have HC5 := Aside0.mk H
 clear H
 go_enter Tryd.func58, Tryd.ntmps58
 go_upto_region 4 with (first | ((with_reducible refine gate_callee (f := 47) rfl ?_); refine gC (some 12) Tryd.func47 (latheref02_Of.calls a0 t402 t403 t404 t405 t406 _ A3.out) (fun w6 hb => ?_); clear A3; replace HB := bst hb; (try clear hb)) | ((with_reducible refine gate_dst (N := 5) rfl ?_); refine box_event ?hg (N := 5) ?hd (cs := #[.bool false, .int .u64 0, .int .i64 0, .bool false, .bool false]) (t := 62) ?hr ?_; (case hd => rfl); (case hg => rfl); (case hr => first | (go_simp; done) | (go_simp; rfl)); intro gb407 hg w7 hbox hb; have BK407 := Aside0.mk (hbox); have GW407 := bsz (w := w) hg; have GE407 := bsz (w := w) hg; replace HB := bst hb; clear hb hbox hg; obtain ⟨_, _, _, _, _, _, _, _, _, _⟩ := bx5 BK407.out) | ((with_reducible refine gate_callee (f := 47) rfl ?_); refine gC (some 14) Tryd.func47 (latheref02_Of.calls a1 t408 t409 t410 t411 t412 _ A4.out) (fun w9 hb => ?_); clear A4; replace BK407 := Aside0.mk (blk_below (g := gb407) (o := .cells #[.bool t402, .int .u64 t403, .int .i64 t404, .bool t405, .bool t406] 62 (0, 0)) (by (with_reducible repeat (first | refine blk_drewN ?_ _ | refine blk_drew ?_ | refine blk_alloc ?_ _)); refine blk_put (cs := #[.bool t402, .int .u64 t403, .int .i64 t404, .bool t405, .bool false]) ?_ 4 _ rfl; (with_reducible repeat (first | refine blk_drewN ?_ _ | refine blk_drew ?_ | refine blk_alloc ?_ _)); refine blk_put (cs := #[.bool t402, .int .u64 t403, .int .i64 t404, .bool false, .bool false]) ?_ 3 _ rfl; (with_reducible repeat (first | refine blk_drewN ?_ _ | refine blk_drew ?_ | refine blk_alloc ?_ _)); refine blk_put (cs := #[.bool t402, .int .u64 t403, .int .i64 0, .bool false, .bool false]) ?_ 2 _ rfl; (with_reducible repeat (first | refine blk_drewN ?_ _ | refine blk_drew ?_ | refine blk_alloc ?_ _)); refine blk_put (cs := #[.bool t402, .int .u64 0, .int .i64 0, .bool false, .bool false]) ?_ 1 _ rfl; (with_reducible repeat (first | refine blk_drewN ?_ _ | refine blk_drew ?_ | refine blk_alloc ?_ _)); refine blk_put (cs := #[.bool false, .int .u64 0, .int .i64 0, .bool false, .bool false]) ?_ 0 _ rfl; (with_reducible repeat (first | refine blk_drewN ?_ _ | refine blk_drew ?_ | refine blk_alloc ?_ _)); exact BK407.out) hb); replace HB := bst hb; (try clear hb)) | ((with_reducible refine gate_dst (N := 6) rfl ?_); refine box_event ?hg (N := 6) ?hd (cs := #[.bool false, .int .u64 0, .int .i64 0, .bool false, .bool false]) (t := 62) ?hr ?_; (case hd => rfl); (case hg => rfl); (case hr => first | (go_simp; done) | (go_simp; rfl)); intro gb413 hg w10 hbox hb; have BK413 := Aside0.mk (hbox); have GW413 := bsz (w := w) hg; have GE413 := bsz (w := w) hg; have NB407_413 := Aside0.mk ((by rw [hg]; exact Nat.ne_of_lt (blk_lt (g := gb407) (o := .cells #[.bool t402, .int .u64 t403, .int .i64 t404, .bool t405, .bool t406] 62 (0, 0)) bkk) : gb407 ≠ gb413)); have NB413_407 := Aside0.mk ((by rw [hg]; exact Nat.ne_of_gt (blk_lt (g := gb407) (o := .cells #[.bool t402, .int .u64 t403, .int .i64 t404, .bool t405, .bool t406] 62 (0, 0)) bkk) : gb413 ≠ gb407)); replace BK407 := bks BK407 hb; replace HB := bst hb; clear hb hbox hg; have hnb11 := NB413_407.out; have hnc11 := NB407_413.out; obtain ⟨_, _, _, _, _, _, _, _, _, _⟩ := bx5 BK413.out; obtain ⟨_, _, _, _, _, _, _, _, _, _⟩ := bx5 BK407.out))
 go_cut [20] (fun v20 wc => ∃ (kq : Nat) (x20_4 : Bool), v20 = .bool x20_4 ∧ Aside0 (latheref02_Div.j0 kq (t402 != t408) x20_4 t402 t403 t404 t405 t406 t408 t409 t410 t411 t412 = some r) ∧ Aside0 (kq ≤ k) ∧ Aside0 (wc.heap[gb407]? = some (.cells #[.bool t402, .int .u64 t403, .int .i64 t404, .bool t405, .bool t406] 62 (0, 0))) ∧ Aside0 (wc.heap[gb413]? = some (.cells #[.bool t408, .int .u64 t409, .int .i64 t410, .bool t411, .bool t412] 62 (0, 0))) ∧ Aside0 (Below w.heap.size w wc))
 case first =>
  have H := HC5.out
  clear HC5
  replace H := Option.bind_eq_some_iff.mp H
  obtain ⟨t414, A140, H⟩ := H
  have A14 := Aside0.mk A140
  clear A140
  by_cases c15 : t414 = true
  ·subst c15
   rw [if_pos rfl] at H
   have H' := Aside0.mk H
   clear H
   have hnb16 := NB407_413.out
   have hnc16 := NB413_407.out
   obtain ⟨_, _, _, _, _, _, _, _, _, _⟩ := bx5 BK407.out
   obtain ⟨_, _, _, _, _, _, _, _, _, _⟩ := bx5 BK413.out
   go_wp2_with (first | ((with_reducible refine gate_callee (f := 46) rfl ?_); refine gC (some 23) Tryd.func46 (latheref02_nan.calls t402 t403 t404 t405 t406 t408 t409 t410 t411 t412 true _ A14.out) (fun w19 hb => ?_); clear A14; replace BK407 := bks BK407 hb; replace BK413 := Aside0.mk (blk_below (g := gb413) (o := .cells #[.bool t408, .int .u64 t409, .int .i64 t410, .bool t411, .bool t412] 62 (0, 0)) (by (with_reducible repeat (first | refine blk_drewN ?_ _ | refine blk_drew ?_ | refine blk_alloc ?_ _)); refine blk_put (cs := #[.bool t408, .int .u64 t409, .int .i64 t410, .bool t411, .bool false]) ?_ 4 _ rfl; (with_reducible repeat (first | refine blk_drewN ?_ _ | refine blk_drew ?_ | refine blk_alloc ?_ _)); refine blk_put (cs := #[.bool t408, .int .u64 t409, .int .i64 t410, .bool false, .bool false]) ?_ 3 _ rfl; (with_reducible repeat (first | refine blk_drewN ?_ _ | refine blk_drew ?_ | refine blk_alloc ?_ _)); refine blk_put (cs := #[.bool t408, .int .u64 t409, .int .i64 0, .bool false, .bool false]) ?_ 2 _ rfl; (with_reducible repeat (first | refine blk_drewN ?_ _ | refine blk_drew ?_ | refine blk_alloc ?_ _)); refine blk_put (cs := #[.bool t408, .int .u64 0, .int .i64 0, .bool false, .bool false]) ?_ 1 _ rfl; (with_reducible repeat (first | refine blk_drewN ?_ _ | refine blk_drew ?_ | refine blk_alloc ?_ _)); refine blk_put (cs := #[.bool false, .int .u64 0, .int .i64 0, .bool false, .bool false]) ?_ 0 _ rfl; (with_reducible repeat (first | refine blk_drewN ?_ _ | refine blk_drew ?_ | refine blk_alloc ?_ _)); exact BK413.out) hb); replace HB := bst hb; (try clear hb)))
   go_meet
   case rel => exact ⟨_, (true), id_, H', ⟨by first | omega | exact Nat.le_refl _⟩, ⟨bkk⟩, ⟨bkk⟩, ⟨hbb⟩⟩
  replace c15 := Bool.eq_false_iff.mpr c15
  subst c15
  rw [if_neg (show ¬ (false = true) by decide)] at H
  by_cases c20 : t405 = true
  ·subst c20
   rw [if_pos rfl] at H
   by_cases c21 : t411 = true
   ·subst c21
    rw [if_pos rfl] at H
    have H' := Aside0.mk H
    clear H
    have hnb22 := NB407_413.out
    have hnc22 := NB413_407.out
    obtain ⟨_, _, _, _, _, _, _, _, _, _⟩ := bx5 BK407.out
    obtain ⟨_, _, _, _, _, _, _, _, _, _⟩ := bx5 BK413.out
    go_wp2_with (first | ((with_reducible refine gate_callee (f := 46) rfl ?_); refine gC (some 23) Tryd.func46 (latheref02_nan.calls t402 t403 t404 true t406 t408 t409 t410 true t412 false _ A14.out) (fun w25 hb => ?_); clear A14; replace BK407 := bks BK407 hb; replace BK413 := Aside0.mk (blk_below (g := gb413) (o := .cells #[.bool t408, .int .u64 t409, .int .i64 t410, .bool true, .bool t412] 62 (0, 0)) (by (with_reducible repeat (first | refine blk_drewN ?_ _ | refine blk_drew ?_ | refine blk_alloc ?_ _)); refine blk_put (cs := #[.bool t408, .int .u64 t409, .int .i64 t410, .bool true, .bool false]) ?_ 4 _ rfl; (with_reducible repeat (first | refine blk_drewN ?_ _ | refine blk_drew ?_ | refine blk_alloc ?_ _)); refine blk_put (cs := #[.bool t408, .int .u64 t409, .int .i64 t410, .bool false, .bool false]) ?_ 3 _ rfl; (with_reducible repeat (first | refine blk_drewN ?_ _ | refine blk_drew ?_ | refine blk_alloc ?_ _)); refine blk_put (cs := #[.bool t408, .int .u64 t409, .int .i64 0, .bool false, .bool false]) ?_ 2 _ rfl; (with_reducible repeat (first | refine blk_drewN ?_ _ | refine blk_drew ?_ | refine blk_alloc ?_ _)); refine blk_put (cs := #[.bool t408, .int .u64 0, .int .i64 0, .bool false, .bool false]) ?_ 1 _ rfl; (with_reducible repeat (first | refine blk_drewN ?_ _ | refine blk_drew ?_ | refine blk_alloc ?_ _)); refine blk_put (cs := #[.bool false, .int .u64 0, .int .i64 0, .bool false, .bool false]) ?_ 0 _ rfl; (with_reducible repeat (first | refine blk_drewN ?_ _ | refine blk_drew ?_ | refine blk_alloc ?_ _)); exact BK413.out) hb); replace HB := bst hb; (try clear hb); obtain ⟨_, _, _, _, _, _, _, _, _, _⟩ := bx5 BK407.out; obtain ⟨_, _, _, _, _, _, _, _, _, _⟩ := bx5 BK413.out))
    go_meet
    case rel => exact ⟨_, (true), id_, H', ⟨by first | omega | exact Nat.le_refl _⟩, ⟨bkk⟩, ⟨bkk⟩, ⟨hbb⟩⟩
   replace c21 := Bool.eq_false_iff.mpr c21
   subst c21
   rw [if_neg (show ¬ (false = true) by decide)] at H
   have H' := Aside0.mk H
   clear H
   have hnb28 := NB407_413.out
   have hnc28 := NB413_407.out
   obtain ⟨_, _, _, _, _, _, _, _, _, _⟩ := bx5 BK407.out
   obtain ⟨_, _, _, _, _, _, _, _, _, _⟩ := bx5 BK413.out
   go_wp2_with (first | ((with_reducible refine gate_callee (f := 46) rfl ?_); refine gC (some 23) Tryd.func46 (latheref02_nan.calls t402 t403 t404 true t406 t408 t409 t410 false t412 false _ A14.out) (fun w31 hb => ?_); clear A14; replace BK407 := bks BK407 hb; replace BK413 := Aside0.mk (blk_below (g := gb413) (o := .cells #[.bool t408, .int .u64 t409, .int .i64 t410, .bool false, .bool t412] 62 (0, 0)) (by (with_reducible repeat (first | refine blk_drewN ?_ _ | refine blk_drew ?_ | refine blk_alloc ?_ _)); refine blk_put (cs := #[.bool t408, .int .u64 t409, .int .i64 t410, .bool false, .bool false]) ?_ 4 _ rfl; (with_reducible repeat (first | refine blk_drewN ?_ _ | refine blk_drew ?_ | refine blk_alloc ?_ _)); refine blk_put (cs := #[.bool t408, .int .u64 t409, .int .i64 t410, .bool false, .bool false]) ?_ 3 _ rfl; (with_reducible repeat (first | refine blk_drewN ?_ _ | refine blk_drew ?_ | refine blk_alloc ?_ _)); refine blk_put (cs := #[.bool t408, .int .u64 t409, .int .i64 0, .bool false, .bool false]) ?_ 2 _ rfl; (with_reducible repeat (first | refine blk_drewN ?_ _ | refine blk_drew ?_ | refine blk_alloc ?_ _)); refine blk_put (cs := #[.bool t408, .int .u64 0, .int .i64 0, .bool false, .bool false]) ?_ 1 _ rfl; (with_reducible repeat (first | refine blk_drewN ?_ _ | refine blk_drew ?_ | refine blk_alloc ?_ _)); refine blk_put (cs := #[.bool false, .int .u64 0, .int .i64 0, .bool false, .bool false]) ?_ 0 _ rfl; (with_reducible repeat (first | refine blk_drewN ?_ _ | refine blk_drew ?_ | refine blk_alloc ?_ _)); exact BK413.out) hb); replace HB := bst hb; (try clear hb); obtain ⟨_, _, _, _, _, _, _, _, _, _⟩ := bx5 BK407.out; obtain ⟨_, _, _, _, _, _, _, _, _, _⟩ := bx5 BK413.out))
   go_meet
   case rel => exact ⟨_, (false), id_, H', ⟨by first | omega | exact Nat.le_refl _⟩, ⟨bkk⟩, ⟨bkk⟩, ⟨hbb⟩⟩
  replace c20 := Bool.eq_false_iff.mpr c20
  subst c20
  rw [if_neg (show ¬ (false = true) by decide)] at H
  by_cases c34 : t411 = true
  ·subst c34
   rw [if_pos rfl] at H
   have H' := Aside0.mk H
   clear H
   have hnb35 := NB407_413.out
   have hnc35 := NB413_407.out
   obtain ⟨_, _, _, _, _, _, _, _, _, _⟩ := bx5 BK407.out
   obtain ⟨_, _, _, _, _, _, _, _, _, _⟩ := bx5 BK413.out
   go_wp2_with (first | ((with_reducible refine gate_callee (f := 46) rfl ?_); refine gC (some 23) Tryd.func46 (latheref02_nan.calls t402 t403 t404 false t406 t408 t409 t410 true t412 false _ A14.out) (fun w38 hb => ?_); clear A14; replace BK407 := bks BK407 hb; replace BK413 := Aside0.mk (blk_below (g := gb413) (o := .cells #[.bool t408, .int .u64 t409, .int .i64 t410, .bool true, .bool t412] 62 (0, 0)) (by (with_reducible repeat (first | refine blk_drewN ?_ _ | refine blk_drew ?_ | refine blk_alloc ?_ _)); refine blk_put (cs := #[.bool t408, .int .u64 t409, .int .i64 t410, .bool true, .bool false]) ?_ 4 _ rfl; (with_reducible repeat (first | refine blk_drewN ?_ _ | refine blk_drew ?_ | refine blk_alloc ?_ _)); refine blk_put (cs := #[.bool t408, .int .u64 t409, .int .i64 t410, .bool false, .bool false]) ?_ 3 _ rfl; (with_reducible repeat (first | refine blk_drewN ?_ _ | refine blk_drew ?_ | refine blk_alloc ?_ _)); refine blk_put (cs := #[.bool t408, .int .u64 t409, .int .i64 0, .bool false, .bool false]) ?_ 2 _ rfl; (with_reducible repeat (first | refine blk_drewN ?_ _ | refine blk_drew ?_ | refine blk_alloc ?_ _)); refine blk_put (cs := #[.bool t408, .int .u64 0, .int .i64 0, .bool false, .bool false]) ?_ 1 _ rfl; (with_reducible repeat (first | refine blk_drewN ?_ _ | refine blk_drew ?_ | refine blk_alloc ?_ _)); refine blk_put (cs := #[.bool false, .int .u64 0, .int .i64 0, .bool false, .bool false]) ?_ 0 _ rfl; (with_reducible repeat (first | refine blk_drewN ?_ _ | refine blk_drew ?_ | refine blk_alloc ?_ _)); exact BK413.out) hb); replace HB := bst hb; (try clear hb); obtain ⟨_, _, _, _, _, _, _, _, _, _⟩ := bx5 BK407.out; obtain ⟨_, _, _, _, _, _, _, _, _, _⟩ := bx5 BK413.out))
   go_meet
   case rel => exact ⟨_, (false), id_, H', ⟨by first | omega | exact Nat.le_refl _⟩, ⟨bkk⟩, ⟨bkk⟩, ⟨hbb⟩⟩
  replace c34 := Bool.eq_false_iff.mpr c34
  subst c34
  rw [if_neg (show ¬ (false = true) by decide)] at H
  by_cases c41 : t403 = 0
  ·rw [if_pos c41] at H
   have c41b0 : (t403 == 0) = true := beq_iff_eq.mpr c41
   have c41b1 : (t403 != 0) = false := bne_eq_false_iff_eq.mpr c41
   clear c41
   (first | rw [c41b0] | (simp only [i64_w, i32_w]; rw [c41b0]) | skip)
   have H' := Aside0.mk H
   clear H
   have hnb42 := NB407_413.out
   have hnc42 := NB413_407.out
   obtain ⟨_, _, _, _, _, _, _, _, _, _⟩ := bx5 BK407.out
   obtain ⟨_, _, _, _, _, _, _, _, _, _⟩ := bx5 BK413.out
   go_wp2_with (first | ((with_reducible refine gate_callee (f := 46) rfl ?_); refine gC (some 23) Tryd.func46 (latheref02_nan.calls t402 t403 t404 false t406 t408 t409 t410 false t412 false _ A14.out) (fun w45 hb => ?_); clear A14; replace BK407 := bks BK407 hb; replace BK413 := Aside0.mk (blk_below (g := gb413) (o := .cells #[.bool t408, .int .u64 t409, .int .i64 t410, .bool false, .bool t412] 62 (0, 0)) (by (with_reducible repeat (first | refine blk_drewN ?_ _ | refine blk_drew ?_ | refine blk_alloc ?_ _)); refine blk_put (cs := #[.bool t408, .int .u64 t409, .int .i64 t410, .bool false, .bool false]) ?_ 4 _ rfl; (with_reducible repeat (first | refine blk_drewN ?_ _ | refine blk_drew ?_ | refine blk_alloc ?_ _)); refine blk_put (cs := #[.bool t408, .int .u64 t409, .int .i64 t410, .bool false, .bool false]) ?_ 3 _ rfl; (with_reducible repeat (first | refine blk_drewN ?_ _ | refine blk_drew ?_ | refine blk_alloc ?_ _)); refine blk_put (cs := #[.bool t408, .int .u64 t409, .int .i64 0, .bool false, .bool false]) ?_ 2 _ rfl; (with_reducible repeat (first | refine blk_drewN ?_ _ | refine blk_drew ?_ | refine blk_alloc ?_ _)); refine blk_put (cs := #[.bool t408, .int .u64 0, .int .i64 0, .bool false, .bool false]) ?_ 1 _ rfl; (with_reducible repeat (first | refine blk_drewN ?_ _ | refine blk_drew ?_ | refine blk_alloc ?_ _)); refine blk_put (cs := #[.bool false, .int .u64 0, .int .i64 0, .bool false, .bool false]) ?_ 0 _ rfl; (with_reducible repeat (first | refine blk_drewN ?_ _ | refine blk_drew ?_ | refine blk_alloc ?_ _)); exact BK413.out) hb); replace HB := bst hb; (try clear hb); obtain ⟨_, _, _, _, _, _, _, _, _, _⟩ := bx5 BK407.out; obtain ⟨_, _, _, _, _, _, _, _, _, _⟩ := bx5 BK413.out))
   go_meet
   case rel => exact ⟨_, ((t409 == 0)), id_, H', ⟨by first | omega | exact Nat.le_refl _⟩, ⟨bkk⟩, ⟨bkk⟩, ⟨hbb⟩⟩
  rw [if_neg c41] at H
  have c41b0 : (t403 == 0) = false := beq_eq_false_iff_ne.mpr c41
  have c41b1 : (t403 != 0) = true := bne_iff_ne.mpr c41
  (first | rw [c41b0] | (simp only [i64_w, i32_w]; rw [c41b0]) | skip)
  have H' := Aside0.mk H
  clear H
  have hnb48 := NB407_413.out
  have hnc48 := NB413_407.out
  obtain ⟨_, _, _, _, _, _, _, _, _, _⟩ := bx5 BK407.out
  obtain ⟨_, _, _, _, _, _, _, _, _, _⟩ := bx5 BK413.out
  go_wp2_with (first | ((with_reducible refine gate_callee (f := 46) rfl ?_); refine gC (some 23) Tryd.func46 (latheref02_nan.calls t402 t403 t404 false t406 t408 t409 t410 false t412 false _ A14.out) (fun w51 hb => ?_); clear A14; replace BK407 := bks BK407 hb; replace BK413 := Aside0.mk (blk_below (g := gb413) (o := .cells #[.bool t408, .int .u64 t409, .int .i64 t410, .bool false, .bool t412] 62 (0, 0)) (by (with_reducible repeat (first | refine blk_drewN ?_ _ | refine blk_drew ?_ | refine blk_alloc ?_ _)); refine blk_put (cs := #[.bool t408, .int .u64 t409, .int .i64 t410, .bool false, .bool false]) ?_ 4 _ rfl; (with_reducible repeat (first | refine blk_drewN ?_ _ | refine blk_drew ?_ | refine blk_alloc ?_ _)); refine blk_put (cs := #[.bool t408, .int .u64 t409, .int .i64 t410, .bool false, .bool false]) ?_ 3 _ rfl; (with_reducible repeat (first | refine blk_drewN ?_ _ | refine blk_drew ?_ | refine blk_alloc ?_ _)); refine blk_put (cs := #[.bool t408, .int .u64 t409, .int .i64 0, .bool false, .bool false]) ?_ 2 _ rfl; (with_reducible repeat (first | refine blk_drewN ?_ _ | refine blk_drew ?_ | refine blk_alloc ?_ _)); refine blk_put (cs := #[.bool t408, .int .u64 0, .int .i64 0, .bool false, .bool false]) ?_ 1 _ rfl; (with_reducible repeat (first | refine blk_drewN ?_ _ | refine blk_drew ?_ | refine blk_alloc ?_ _)); refine blk_put (cs := #[.bool false, .int .u64 0, .int .i64 0, .bool false, .bool false]) ?_ 0 _ rfl; (with_reducible repeat (first | refine blk_drewN ?_ _ | refine blk_drew ?_ | refine blk_alloc ?_ _)); exact BK413.out) hb); replace HB := bst hb; (try clear hb); obtain ⟨_, _, _, _, _, _, _, _, _, _⟩ := bx5 BK407.out; obtain ⟨_, _, _, _, _, _, _, _, _, _⟩ := bx5 BK413.out))
  go_meet
  case rel => exact ⟨_, (false), id_, H', ⟨by first | omega | exact Nat.le_refl _⟩, ⟨bkk⟩, ⟨bkk⟩, ⟨hbb⟩⟩
 case rest =>
  clear HC5
  obtain ⟨kq, x20_4, rfl, HA, HJ4, BK407, BK413, HB⟩ := hcut
  cases kq with
  | zero => exact absurd HA.out (by simp [latheref02_Div.j0])
  | succ kj4 =>
   have H := HA.out
   clear HA
   simp only [latheref02_Div.j0] at H
   by_cases c54 : x20_4 = true
   ·subst c54
    rw [if_pos rfl] at H
    obtain rfl := Option.some.inj H
    go_wp2
    go_ret
    exact fin_
   replace c54 := Bool.eq_false_iff.mpr c54
   subst c54
   rw [if_neg (show ¬ (false = true) by decide)] at H
   have HC55 := Aside0.mk H
   clear H
   go_upto_region 6 with (fail)
   go_cut [52] (fun v52 wc => ∃ (kq : Nat) (x52_54 : Bool), v52 = .bool x52_54 ∧ Aside0 (latheref02_Div.j1 kq (t402 != t408) x52_54 t402 t403 t404 t405 t406 t408 t409 t410 t411 t412 = some r) ∧ Aside0 (kq ≤ kj4) ∧ Aside0 (wc.heap[gb407]? = some (.cells #[.bool t402, .int .u64 t403, .int .i64 t404, .bool t405, .bool t406] 62 (0, 0))) ∧ Aside0 (wc.heap[gb413]? = some (.cells #[.bool t408, .int .u64 t409, .int .i64 t410, .bool t411, .bool t412] 62 (0, 0))) ∧ Aside0 (Below w.heap.size w wc))
   case first =>
    have H := HC55.out
    clear HC55
    by_cases c56 : t405 = true
    ·subst c56
     rw [if_pos rfl] at H
     have H' := Aside0.mk H
     clear H
     have hnb57 := NB407_413.out
     have hnc57 := NB413_407.out
     obtain ⟨_, _, _, _, _, _, _, _, _, _⟩ := bx5 BK407.out
     go_wp2
     go_meet
     case rel => exact ⟨_, (true), id_, H', ⟨by have := HJ4.out; first | omega | exact Nat.le_refl _⟩, ⟨bkk⟩, ⟨bkk⟩, ⟨hbb⟩⟩
    replace c56 := Bool.eq_false_iff.mpr c56
    subst c56
    rw [if_neg (show ¬ (false = true) by decide)] at H
    by_cases c59 : t411 = true
    ·subst c59
     rw [if_pos rfl] at H
     have H' := Aside0.mk H
     clear H
     have hnb60 := NB407_413.out
     have hnc60 := NB413_407.out
     obtain ⟨_, _, _, _, _, _, _, _, _, _⟩ := bx5 BK407.out
     obtain ⟨_, _, _, _, _, _, _, _, _, _⟩ := bx5 BK413.out
     go_wp2
     go_meet
     case rel => exact ⟨_, (false), id_, H', ⟨by have := HJ4.out; first | omega | exact Nat.le_refl _⟩, ⟨bkk⟩, ⟨bkk⟩, ⟨hbb⟩⟩
    replace c59 := Bool.eq_false_iff.mpr c59
    subst c59
    rw [if_neg (show ¬ (false = true) by decide)] at H
    have H' := Aside0.mk H
    clear H
    have hnb63 := NB407_413.out
    have hnc63 := NB413_407.out
    obtain ⟨_, _, _, _, _, _, _, _, _, _⟩ := bx5 BK407.out
    obtain ⟨_, _, _, _, _, _, _, _, _, _⟩ := bx5 BK413.out
    go_wp2
    go_meet
    case rel => exact ⟨_, ((t409 == 0)), id_, H', ⟨by have := HJ4.out; first | omega | exact Nat.le_refl _⟩, ⟨bkk⟩, ⟨bkk⟩, ⟨hbb⟩⟩
   case rest =>
    clear HC55
    obtain ⟨kq, x52_54, rfl, HA, HJ54, BK407, BK413, HB⟩ := hcut
    cases kq with
    | zero => exact absurd HA.out (by simp [latheref02_Div.j1])
    | succ kj54 =>
     have H := HA.out
     clear HA
     simp only [latheref02_Div.j1] at H
     by_cases c66 : x52_54 = true
     ·subst c66
      rw [if_pos rfl] at H
      replace H := Option.bind_eq_some_iff.mp H
      obtain ⟨t415, A670, H⟩ := H
      have A67 := Aside0.mk A670
      clear A670
      obtain rfl := Option.some.inj H
      go_wp2_with (first | ((with_reducible refine gate_callee (f := 50) rfl ?_); refine gL (some 66) Tryd.func50 #[.bool (t402 != t408)] ?_; (with_reducible refine (latheref02_infinite.calls (t402 != t408) t415 _ A67.out).mono ?_); clear A67; rintro e w' ⟨rfl, ⟨nd, rfl⟩⟩; refine ⟨_, rfl, ?_⟩))
      go_ret
      exact fin_
     replace c66 := Bool.eq_false_iff.mpr c66
     subst c66
     rw [if_neg (show ¬ (false = true) by decide)] at H
     by_cases c68 : t411 = true
     ·subst c68
      rw [if_pos rfl] at H
      replace H := Option.bind_eq_some_iff.mp H
      obtain ⟨t416, A690, H⟩ := H
      have A69 := Aside0.mk A690
      clear A690
      obtain rfl := Option.some.inj H
      have hnb70 := NB413_407.out
      have hnc70 := NB407_413.out
      obtain ⟨_, _, _, _, _, _, _, _, _, _⟩ := bx5 BK413.out
      go_wp2_with (first | ((with_reducible refine gate_callee (f := 51) rfl ?_); refine gL (some 76) Tryd.func51 #[.bool (t402 != t408)] ?_; (with_reducible refine (latheref02_zero.calls (t402 != t408) t416 _ A69.out).mono ?_); clear A69; rintro e w' ⟨rfl, ⟨nd, rfl⟩⟩; refine ⟨_, rfl, ?_⟩))
      go_ret
      exact fin_
     replace c68 := Bool.eq_false_iff.mpr c68
     subst c68
     rw [if_neg (show ¬ (false = true) by decide)] at H
     by_cases c72 : t403 = 0
     ·rw [if_pos c72] at H
      have c72b0 : (t403 == 0) = true := beq_iff_eq.mpr c72
      have c72b1 : (t403 != 0) = false := bne_eq_false_iff_eq.mpr c72
      clear c72
      replace H := Option.bind_eq_some_iff.mp H
      obtain ⟨t417, A730, H⟩ := H
      have A73 := Aside0.mk A730
      clear A730
      obtain rfl := Option.some.inj H
      have hnb74 := NB413_407.out
      have hnc74 := NB407_413.out
      obtain ⟨_, _, _, _, _, _, _, _, _, _⟩ := bx5 BK413.out
      obtain ⟨_, _, _, _, _, _, _, _, _, _⟩ := bx5 BK407.out
      go_wp2_with (first | ((with_reducible refine gate_callee (f := 51) rfl ?_); refine gL (some 76) Tryd.func51 #[.bool (t402 != t408)] ?_; (with_reducible refine (latheref02_zero.calls (t402 != t408) t417 _ A73.out).mono ?_); clear A73; rintro e w' ⟨rfl, ⟨nd, rfl⟩⟩; refine ⟨_, rfl, ?_⟩))
      go_ret
      exact fin_
     rw [if_neg c72] at H
     have c72b0 : (t403 == 0) = false := beq_eq_false_iff_ne.mpr c72
     have c72b1 : (t403 != 0) = true := bne_iff_ne.mpr c72
     replace H := Option.bind_eq_some_iff.mp H
     obtain ⟨⟨t418, t419, t420, t421, t422⟩, A770, H⟩ := H
     have A77 := Aside0.mk A770
     clear A770
     replace H := Option.bind_eq_some_iff.mp H
     obtain ⟨⟨t423, t424, t425, t426, t427⟩, A780, H⟩ := H
     have A78 := Aside0.mk A780
     clear A780
     by_cases c79 : t424 = 0
     ·rw [if_pos c79] at H
      exact absurd H (by simp)
     rw [if_neg c79] at H
     have c79b0 : (t424 == 0) = false := beq_eq_false_iff_ne.mpr c79
     have c79b1 : (t424 != 0) = true := bne_iff_ne.mpr c79
     by_cases c80 : (Int.tmod (IntKind.u64.wrap (t419 * 274877906944)) t424) > 0
     ·rw [if_pos c80] at H
      have c80b0 : decide (0 < (Int.tmod (IntKind.u64.wrap (t419 * 274877906944)) t424)) = true := decide_eq_true c80
      clear c80
      replace H := Option.bind_eq_some_iff.mp H
      obtain ⟨t428, A810, H⟩ := H
      have A81 := Aside0.mk A810
      clear A810
      obtain rfl := Option.some.inj H
      have hnb82 := NB413_407.out
      have hnc82 := NB407_413.out
      obtain ⟨_, _, _, _, _, _, _, _, _, _⟩ := bx5 BK413.out
      obtain ⟨_, _, _, _, _, _, _, _, _, _⟩ := bx5 BK407.out
      go_wp2_with (first | ((with_reducible refine gate_callee (f := 78) rfl ?_); refine gC (some 78) Tryd.func78 (latheref02_up.calls t402 t403 t404 t405 t406 t418 t419 t420 t421 t422 _ A77.out) (fun w85 hb => ?_); clear A77; replace BK407 := bks BK407 hb; replace BK413 := bks BK413 hb; replace HB := bst hb; (try clear hb); obtain ⟨_, _, _, _, _, _, _, _, _, _⟩ := bx5 BK407.out; obtain ⟨_, _, _, _, _, _, _, _, _, _⟩ := bx5 BK413.out) | ((with_reducible refine gate_callee (f := 78) rfl ?_); refine gC (some 80) Tryd.func78 (latheref02_up.calls t408 t409 t410 false t412 t423 t424 t425 t426 t427 _ A78.out) (fun w88 hb => ?_); clear A78; replace BK407 := Aside0.mk (blk_below (g := gb407) (o := .cells #[.bool t418, .int .u64 t419, .int .i64 t420, .bool t421, .bool t422] 62 (0, 0)) (by (with_reducible repeat (first | refine blk_drewN ?_ _ | refine blk_drew ?_ | refine blk_alloc ?_ _)); refine blk_put (cs := #[.bool t418, .int .u64 t419, .int .i64 t420, .bool t421, .bool t406]) ?_ 4 _ rfl; (with_reducible repeat (first | refine blk_drewN ?_ _ | refine blk_drew ?_ | refine blk_alloc ?_ _)); refine blk_put (cs := #[.bool t418, .int .u64 t419, .int .i64 t420, .bool t405, .bool t406]) ?_ 3 _ rfl; (with_reducible repeat (first | refine blk_drewN ?_ _ | refine blk_drew ?_ | refine blk_alloc ?_ _)); refine blk_put (cs := #[.bool t418, .int .u64 t419, .int .i64 t404, .bool t405, .bool t406]) ?_ 2 _ rfl; (with_reducible repeat (first | refine blk_drewN ?_ _ | refine blk_drew ?_ | refine blk_alloc ?_ _)); refine blk_put (cs := #[.bool t418, .int .u64 t403, .int .i64 t404, .bool t405, .bool t406]) ?_ 1 _ rfl; (with_reducible repeat (first | refine blk_drewN ?_ _ | refine blk_drew ?_ | refine blk_alloc ?_ _)); refine blk_put (cs := #[.bool t402, .int .u64 t403, .int .i64 t404, .bool t405, .bool t406]) ?_ 0 _ rfl; (with_reducible repeat (first | refine blk_drewN ?_ _ | refine blk_drew ?_ | refine blk_alloc ?_ _)); exact BK407.out) hb); replace BK413 := bks BK413 hb; replace HB := bst hb; (try clear hb); obtain ⟨_, _, _, _, _, _, _, _, _, _⟩ := bx5 BK413.out; obtain ⟨_, _, _, _, _, _, _, _, _, _⟩ := bx5 BK407.out) | ((with_reducible refine gate_callee (f := 52) rfl ?_); refine gC (some 106) Tryd.func52 (latheref02_Round.calls kj54 (t402 != t408) (IntKind.u64.wrap ((IntKind.u64.wrap ((IntKind.u64.wrap (Int.tdiv (IntKind.u64.wrap (t419 * 274877906944)) t424)) * 2)) + 1)) (wrap64 ((wrap64 (t420 - t425)) - 39)) t428 _ A81.out) (fun w91 hb => ?_); clear A81; replace BK407 := bks BK407 hb; replace BK413 := Aside0.mk (blk_below (g := gb413) (o := .cells #[.bool t423, .int .u64 t424, .int .i64 t425, .bool t426, .bool t427] 62 (0, 0)) (by (with_reducible repeat (first | refine blk_drewN ?_ _ | refine blk_drew ?_ | refine blk_alloc ?_ _)); refine blk_put (cs := #[.bool t423, .int .u64 t424, .int .i64 t425, .bool t426, .bool t412]) ?_ 4 _ rfl; (with_reducible repeat (first | refine blk_drewN ?_ _ | refine blk_drew ?_ | refine blk_alloc ?_ _)); refine blk_put (cs := #[.bool t423, .int .u64 t424, .int .i64 t425, .bool false, .bool t412]) ?_ 3 _ rfl; (with_reducible repeat (first | refine blk_drewN ?_ _ | refine blk_drew ?_ | refine blk_alloc ?_ _)); refine blk_put (cs := #[.bool t423, .int .u64 t424, .int .i64 t410, .bool false, .bool t412]) ?_ 2 _ rfl; (with_reducible repeat (first | refine blk_drewN ?_ _ | refine blk_drew ?_ | refine blk_alloc ?_ _)); refine blk_put (cs := #[.bool t423, .int .u64 t409, .int .i64 t410, .bool false, .bool t412]) ?_ 1 _ rfl; (with_reducible repeat (first | refine blk_drewN ?_ _ | refine blk_drew ?_ | refine blk_alloc ?_ _)); refine blk_put (cs := #[.bool t408, .int .u64 t409, .int .i64 t410, .bool false, .bool t412]) ?_ 0 _ rfl; (with_reducible repeat (first | refine blk_drewN ?_ _ | refine blk_drew ?_ | refine blk_alloc ?_ _)); exact BK413.out) hb); replace HB := bst hb; (try clear hb)))
      go_ret
      exact fin_
     rw [if_neg c80] at H
     have c80b0 : decide (0 < (Int.tmod (IntKind.u64.wrap (t419 * 274877906944)) t424)) = false := decide_eq_false c80
     clear c80
     replace H := Option.bind_eq_some_iff.mp H
     obtain ⟨t429, A920, H⟩ := H
     have A92 := Aside0.mk A920
     clear A920
     obtain rfl := Option.some.inj H
     have hnb93 := NB413_407.out
     have hnc93 := NB407_413.out
     obtain ⟨_, _, _, _, _, _, _, _, _, _⟩ := bx5 BK413.out
     obtain ⟨_, _, _, _, _, _, _, _, _, _⟩ := bx5 BK407.out
     go_wp2_with (first | ((with_reducible refine gate_callee (f := 78) rfl ?_); refine gC (some 78) Tryd.func78 (latheref02_up.calls t402 t403 t404 t405 t406 t418 t419 t420 t421 t422 _ A77.out) (fun w96 hb => ?_); clear A77; replace BK407 := bks BK407 hb; replace BK413 := bks BK413 hb; replace HB := bst hb; (try clear hb); obtain ⟨_, _, _, _, _, _, _, _, _, _⟩ := bx5 BK407.out; obtain ⟨_, _, _, _, _, _, _, _, _, _⟩ := bx5 BK413.out) | ((with_reducible refine gate_callee (f := 78) rfl ?_); refine gC (some 80) Tryd.func78 (latheref02_up.calls t408 t409 t410 false t412 t423 t424 t425 t426 t427 _ A78.out) (fun w99 hb => ?_); clear A78; replace BK407 := Aside0.mk (blk_below (g := gb407) (o := .cells #[.bool t418, .int .u64 t419, .int .i64 t420, .bool t421, .bool t422] 62 (0, 0)) (by (with_reducible repeat (first | refine blk_drewN ?_ _ | refine blk_drew ?_ | refine blk_alloc ?_ _)); refine blk_put (cs := #[.bool t418, .int .u64 t419, .int .i64 t420, .bool t421, .bool t406]) ?_ 4 _ rfl; (with_reducible repeat (first | refine blk_drewN ?_ _ | refine blk_drew ?_ | refine blk_alloc ?_ _)); refine blk_put (cs := #[.bool t418, .int .u64 t419, .int .i64 t420, .bool t405, .bool t406]) ?_ 3 _ rfl; (with_reducible repeat (first | refine blk_drewN ?_ _ | refine blk_drew ?_ | refine blk_alloc ?_ _)); refine blk_put (cs := #[.bool t418, .int .u64 t419, .int .i64 t404, .bool t405, .bool t406]) ?_ 2 _ rfl; (with_reducible repeat (first | refine blk_drewN ?_ _ | refine blk_drew ?_ | refine blk_alloc ?_ _)); refine blk_put (cs := #[.bool t418, .int .u64 t403, .int .i64 t404, .bool t405, .bool t406]) ?_ 1 _ rfl; (with_reducible repeat (first | refine blk_drewN ?_ _ | refine blk_drew ?_ | refine blk_alloc ?_ _)); refine blk_put (cs := #[.bool t402, .int .u64 t403, .int .i64 t404, .bool t405, .bool t406]) ?_ 0 _ rfl; (with_reducible repeat (first | refine blk_drewN ?_ _ | refine blk_drew ?_ | refine blk_alloc ?_ _)); exact BK407.out) hb); replace BK413 := bks BK413 hb; replace HB := bst hb; (try clear hb); obtain ⟨_, _, _, _, _, _, _, _, _, _⟩ := bx5 BK413.out; obtain ⟨_, _, _, _, _, _, _, _, _, _⟩ := bx5 BK407.out) | ((with_reducible refine gate_callee (f := 52) rfl ?_); refine gC (some 106) Tryd.func52 (latheref02_Round.calls kj54 (t402 != t408) (IntKind.u64.wrap ((IntKind.u64.wrap (Int.tdiv (IntKind.u64.wrap (t419 * 274877906944)) t424)) * 2)) (wrap64 ((wrap64 (t420 - t425)) - 39)) t429 _ A92.out) (fun w102 hb => ?_); clear A92; replace BK407 := bks BK407 hb; replace BK413 := Aside0.mk (blk_below (g := gb413) (o := .cells #[.bool t423, .int .u64 t424, .int .i64 t425, .bool t426, .bool t427] 62 (0, 0)) (by (with_reducible repeat (first | refine blk_drewN ?_ _ | refine blk_drew ?_ | refine blk_alloc ?_ _)); refine blk_put (cs := #[.bool t423, .int .u64 t424, .int .i64 t425, .bool t426, .bool t412]) ?_ 4 _ rfl; (with_reducible repeat (first | refine blk_drewN ?_ _ | refine blk_drew ?_ | refine blk_alloc ?_ _)); refine blk_put (cs := #[.bool t423, .int .u64 t424, .int .i64 t425, .bool false, .bool t412]) ?_ 3 _ rfl; (with_reducible repeat (first | refine blk_drewN ?_ _ | refine blk_drew ?_ | refine blk_alloc ?_ _)); refine blk_put (cs := #[.bool t423, .int .u64 t424, .int .i64 t410, .bool false, .bool t412]) ?_ 2 _ rfl; (with_reducible repeat (first | refine blk_drewN ?_ _ | refine blk_drew ?_ | refine blk_alloc ?_ _)); refine blk_put (cs := #[.bool t423, .int .u64 t409, .int .i64 t410, .bool false, .bool t412]) ?_ 1 _ rfl; (with_reducible repeat (first | refine blk_drewN ?_ _ | refine blk_drew ?_ | refine blk_alloc ?_ _)); refine blk_put (cs := #[.bool t408, .int .u64 t409, .int .i64 t410, .bool false, .bool t412]) ?_ 0 _ rfl; (with_reducible repeat (first | refine blk_drewN ?_ _ | refine blk_drew ?_ | refine blk_alloc ?_ _)); exact BK413.out) hb); replace HB := bst hb; (try clear hb)))
     go_ret
     exact fin_

end Go.Proofs.YtmfladkimmnccaaDoor.PW
