/- The functions of the program that a statement reaches, as plain functions, and that the machine's calls do what these say. No condition. (Printed by a program.) -/
import Derived.Test.YtmfladkimmnccaaDoorPWx0
import Derived.Test.YtmfladkimmnccaaDoorPVx6
import Derived.Test.YtmfladkimmnccaaDoorPVx8
import Derived.Test.YtmfladkimmnccaaDoorPVx19
import Derived.Test.YtmfladkimmnccaaDoorWal
namespace Go.Proofs.YtmfladkimmnccaaDoor.PW
open Go.RowKit Go.Proofs.YtmfladkimmnccaaDoorW.PrintWords Go.Proofs.YtmfladkimmnccaaDoorW.PrintLast Go.Proofs.YtmfladkimmnccaaDoorW.PrintMore Go.Proofs.YtmfladkimmnccaaDoor.Sht
attribute [local go_sem] max2_int min2_int max_two min_two max_three min_three max_four min_four   -- for this text's walks alone
set_option linter.unusedVariables false
set_option linter.unusedSimpArgs false

/-! ### latheref14_Value: function 14 -/
def latheref14_Value.f (k : Nat) (a0_0 : Int) (l0_1 : List Int) (l0_2 : List Int) (l0_3 : List (S26)) (a1 : Int) : Option (Int × Int) := (latheref14_Check.f k a0_0 l0_1 l0_2 l0_3).bind fun t534 => (if t534 = 0 then ((latheref14_in.f a1 0 2147483647).bind fun t535 => (if t535 = true then ((latheref14_at.f k a0_0 l0_1 l0_2 l0_3 a1).bind fun t536 => (some (t536, 0))) else (some (0, 1)))) else (some (0, 1)))
theorem latheref14_Value.mono : ∀ a0 a1 a2 a3 a4 k, LeO (latheref14_Value.f k a0 a1 a2 a3 a4) (latheref14_Value.f (k + 1) a0 a1 a2 a3 a4) := by
 intro a0 a1 a2 a3 a4 k
 unfold latheref14_Value.f
 repeat' with_reducible first
  | exact latheref14_Check.mono _ _ _ _ _
  | exact latheref14_at.mono _ _ _ _ _ _
  | exact LeO.refl _
  | exact LeO.none _
  | refine LeO.ite ?_ ?_
  | refine LeO.bind ?_ (fun _ => ?_)
set_option maxHeartbeats 8000000 in
set_option maxRecDepth 100000 in
theorem latheref14_Value.calls (k : Nat) (a0_0 : Int) (A0_1 : Option Addr) (c0_1 : Nat) (l0_1 : List Int) (A0_2 : Option Addr) (c0_2 : Nat) (l0_2 : List Int) (A0_3 : Option Addr) (c0_3 : Nat) (l0_3 : List (S26)) (a1 : Int) (r1 : Int) (r2 : Int) (w : World) (hr0_1 : Kd.C (Kd.int .u32) w A0_1 l0_1.length l0_1) (hc0_1 : l0_1.length ≤ c0_1) (hr0_2 : Kd.C (Kd.int .i64) w A0_2 l0_2.length l0_2) (hc0_2 : l0_2.length ≤ c0_2) (hr0_3 : Kd.C k26 w A0_3 l0_3.length l0_3) (hc0_3 : l0_3.length ≤ c0_3) (h : latheref14_Value.f k a0_0 l0_1 l0_2 l0_3 a1 = some (r1, r2)) :
  Calls Tryd.prog 14 #[.agg #[.int .i64 a0_0, .slice A0_1 l0_1.length c0_1, .slice A0_2 l0_2.length c0_2, .slice A0_3 l0_3.length c0_3], .int .i64 a1] w fun e w' => e = .returned (.tuple #[.int .i64 r1, .int .i64 r2]) ∧ Below w.heap.size w w' := by
 have hu26 := Tryd.underlying26
 have HR0_1 := Aside0.mk hr0_1
 have HC0_1 := Aside0.mk hc0_1
 clear hr0_1 hc0_1
 have HR0_2 := Aside0.mk hr0_2
 have HC0_2 := Aside0.mk hc0_2
 clear hr0_2 hc0_2
 have HR0_3 := Aside0.mk hr0_3
 have HC0_3 := Aside0.mk hc0_3
 clear hr0_3 hc0_3
 have HB := Aside0.mk (Below.refl w.heap.size w)
 have H : ((latheref14_Check.f k a0_0 l0_1 l0_2 l0_3).bind fun t534 => (if t534 = 0 then ((latheref14_in.f a1 0 2147483647).bind fun t535 => (if t535 = true then ((latheref14_at.f k a0_0 l0_1 l0_2 l0_3 a1).bind fun t536 => (some (t536, 0))) else (some (0, 1)))) else (some (0, 1)))) = some (r1, r2) := h
 clear h
 replace H := Option.bind_eq_some_iff.mp H
 obtain ⟨t534, A30, H⟩ := H
 replace H : (if t534 = 0 then ((latheref14_in.f a1 0 2147483647).bind fun t535 => (if t535 = true then ((latheref14_at.f k a0_0 l0_1 l0_2 l0_3 a1).bind fun t536 => (some (t536, 0))) else (some (0, 1)))) else (some (0, 1))) = some (r1, r2) := H
 have A3 := Aside0.mk A30
 clear A30
 by_cases c4 : t534 = 0
 rotate_left
 ·rw [if_neg c4] at H
  have c4b0 : (t534 == 0) = false := beq_eq_false_iff_ne.mpr c4
  have c4b1 : (t534 != 0) = true := bne_iff_ne.mpr c4
  simp only [Option.some.injEq, Prod.mk.injEq] at H
  obtain ⟨rfl, rfl⟩ := H
  go_enter Tryd.func14, Tryd.ntmps14
  go_wp2_with (first | ((with_reducible refine gate_dst (N := 2) rfl ?_); refine box_event ?hg (N := 2) ?hd (cs := #[.int .i64 a0_0, .slice A0_1 l0_1.length c0_1, .slice A0_2 l0_2.length c0_2, .slice A0_3 l0_3.length c0_3]) (t := 26) ?hr ?_; (case hd => rfl); (case hg => rfl); (case hr => first | (go_simp; done) | (go_simp; rfl)); intro gb533 hg w16 hbox hb; have BK533 := Aside0.mk (hbox); have GW533 := bsz (w := w) hg; have GE533 := bsz (w := w) hg; replace HB := bst hb; clear hb hbox hg; obtain ⟨_, _, _, _, _, _, _, _⟩ := bx4 BK533.out) | ((with_reducible refine gate_callee (f := 16) rfl ?_); refine gC (some 7) Tryd.func16 (latheref14_Check.calls k a0_0 _ _ l0_1 _ _ l0_2 _ _ l0_3 t534 _ (cb HR0_1) HC0_1.out (cb HR0_2) HC0_2.out (cb HR0_3) HC0_3.out A3.out) (fun w18 hb => ?_); clear A3; replace BK533 := bks BK533 hb; replace HB := bst hb; (try clear hb)))
  go_ret2
  exact fin_
 rw [if_pos c4] at H
 have c4b0 : (t534 == 0) = true := beq_iff_eq.mpr c4
 have c4b1 : (t534 != 0) = false := bne_eq_false_iff_eq.mpr c4
 clear c4
 replace H := Option.bind_eq_some_iff.mp H
 obtain ⟨t535, A50, H⟩ := H
 replace H : (if t535 = true then ((latheref14_at.f k a0_0 l0_1 l0_2 l0_3 a1).bind fun t536 => (some (t536, 0))) else (some (0, 1))) = some (r1, r2) := H
 have A5 := Aside0.mk A50
 clear A50
 by_cases c6 : t535 = true
 rotate_left
 ·replace c6 := Bool.eq_false_iff.mpr c6
  subst c6
  have H1 : (some (0, 1)) = some (r1, r2) := by rw [if_neg (show ¬ (false = true) by decide)] at H; exact H
  clear H
  have H := H1
  clear H1
  simp only [Option.some.injEq, Prod.mk.injEq] at H
  obtain ⟨rfl, rfl⟩ := H
  go_enter Tryd.func14, Tryd.ntmps14
  go_wp2_with (first | ((with_reducible refine gate_dst (N := 2) rfl ?_); refine box_event ?hg (N := 2) ?hd (cs := #[.int .i64 a0_0, .slice A0_1 l0_1.length c0_1, .slice A0_2 l0_2.length c0_2, .slice A0_3 l0_3.length c0_3]) (t := 26) ?hr ?_; (case hd => rfl); (case hg => rfl); (case hr => first | (go_simp; done) | (go_simp; rfl)); intro gb533 hg w13 hbox hb; have BK533 := Aside0.mk (hbox); have GW533 := bsz (w := w) hg; have GE533 := bsz (w := w) hg; replace HB := bst hb; clear hb hbox hg; obtain ⟨_, _, _, _, _, _, _, _⟩ := bx4 BK533.out) | ((with_reducible refine gate_callee (f := 16) rfl ?_); refine gC (some 7) Tryd.func16 (latheref14_Check.calls k a0_0 _ _ l0_1 _ _ l0_2 _ _ l0_3 t534 _ (cb HR0_1) HC0_1.out (cb HR0_2) HC0_2.out (cb HR0_3) HC0_3.out A3.out) (fun w15 hb => ?_); clear A3; replace BK533 := bks BK533 hb; replace HB := bst hb; (try clear hb)) | (go_at_call 31; (with_reducible refine (latheref14_in.calls a1 0 2147483647 false _ A5.out).mono ?_); clear A5; rintro e w' ⟨rfl, ⟨nd, rfl⟩⟩))
  go_ret2
  exact fin_
 subst c6
 have H1 : ((latheref14_at.f k a0_0 l0_1 l0_2 l0_3 a1).bind fun t536 => (some (t536, 0))) = some (r1, r2) := by rw [if_pos rfl] at H; exact H
 clear H
 have H := H1
 clear H1
 replace H := Option.bind_eq_some_iff.mp H
 obtain ⟨t536, A70, H⟩ := H
 replace H : (some (t536, 0)) = some (r1, r2) := H
 have A7 := Aside0.mk A70
 clear A70
 simp only [Option.some.injEq, Prod.mk.injEq] at H
 obtain ⟨rfl, rfl⟩ := H
 go_enter Tryd.func14, Tryd.ntmps14
 go_wp2_with (first | ((with_reducible refine gate_dst (N := 2) rfl ?_); refine box_event ?hg (N := 2) ?hd (cs := #[.int .i64 a0_0, .slice A0_1 l0_1.length c0_1, .slice A0_2 l0_2.length c0_2, .slice A0_3 l0_3.length c0_3]) (t := 26) ?hr ?_; (case hd => rfl); (case hg => rfl); (case hr => first | (go_simp; done) | (go_simp; rfl)); intro gb533 hg w8 hbox hb; have BK533 := Aside0.mk (hbox); have GW533 := bsz (w := w) hg; have GE533 := bsz (w := w) hg; replace HB := bst hb; clear hb hbox hg; obtain ⟨_, _, _, _, _, _, _, _⟩ := bx4 BK533.out) | ((with_reducible refine gate_callee (f := 16) rfl ?_); refine gC (some 7) Tryd.func16 (latheref14_Check.calls k a0_0 _ _ l0_1 _ _ l0_2 _ _ l0_3 t534 _ (cb HR0_1) HC0_1.out (cb HR0_2) HC0_2.out (cb HR0_3) HC0_3.out A3.out) (fun w10 hb => ?_); clear A3; replace BK533 := bks BK533 hb; replace HB := bst hb; (try clear hb)) | (go_at_call 31; (with_reducible refine (latheref14_in.calls a1 0 2147483647 true _ A5.out).mono ?_); clear A5; rintro e w' ⟨rfl, ⟨nd, rfl⟩⟩; obtain ⟨_, _, _, _, _, _, _, _⟩ := bx4 BK533.out) | ((with_reducible refine gate_callee (f := 32) rfl ?_); refine gL (some 16) Tryd.func32 #[.agg #[.int .i64 a0_0, .slice A0_1 l0_1.length c0_1, .slice A0_2 l0_2.length c0_2, .slice A0_3 l0_3.length c0_3], .int .i64 a1] ?_; (with_reducible refine (latheref14_at.calls k a0_0 _ _ l0_1 _ _ l0_2 _ _ l0_3 a1 t536 _ ?side1 ?side2 ?side3 ?side4 ?side5 ?side6 A7.out).mono ?_); (case side1 => repeat (first | exact (Kd.C_below HR0_1.out hbb) | (with_reducible refine Kd.C_alloc ?_ _) | (with_reducible refine Kd.C_drewN ?_ _) | (with_reducible refine Kd.C_drew ?_))); (case side2 => exact HC0_1.out); (case side3 => repeat (first | exact (Kd.C_below HR0_2.out hbb) | (with_reducible refine Kd.C_alloc ?_ _) | (with_reducible refine Kd.C_drewN ?_ _) | (with_reducible refine Kd.C_drew ?_))); (case side4 => exact HC0_2.out); (case side5 => repeat (first | exact (Kd.C_below HR0_3.out hbb) | (with_reducible refine Kd.C_alloc ?_ _) | (with_reducible refine Kd.C_drewN ?_ _) | (with_reducible refine Kd.C_drew ?_))); (case side6 => exact HC0_3.out); clear A7; rintro e w12 ⟨rfl, hb⟩; refine ⟨_, rfl, ?_⟩; replace BK533 := bks BK533 hb; replace HB := bst hb; (try clear hb)))
 go_ret2
 exact fin_

end Go.Proofs.YtmfladkimmnccaaDoor.PW
