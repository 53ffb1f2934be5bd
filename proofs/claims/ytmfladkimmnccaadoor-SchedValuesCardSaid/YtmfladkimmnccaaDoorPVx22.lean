/- The functions of the program that a statement reaches, as plain functions, and that the machine's calls do what these say. No condition. (Printed by a program.) -/
import Derived.Test.YtmfladkimmnccaaDoorPWx0
import Derived.Test.YtmfladkimmnccaaDoorPWx1
import Derived.Test.YtmfladkimmnccaaDoorPWxa
import Derived.Test.YtmfladkimmnccaaDoorPWx4
import Derived.Test.YtmfladkimmnccaaDoorPVx5
import Derived.Test.YtmfladkimmnccaaDoorPVx8
import Derived.Test.YtmfladkimmnccaaDoorPVx20
import Derived.Test.YtmfladkimmnccaaDoorPVx21
import Derived.Test.YtmfladkimmnccaaDoorWal
namespace Go.Proofs.YtmfladkimmnccaaDoor.PW
open Go.RowKit Go.Proofs.YtmfladkimmnccaaDoorW.PrintWords Go.Proofs.YtmfladkimmnccaaDoorW.PrintLast Go.Proofs.YtmfladkimmnccaaDoorW.PrintMore Go.Proofs.YtmfladkimmnccaaDoor.Sht
attribute [local go_sem] max2_int min2_int max_two min_two max_three min_three max_four min_four   -- for this text's walks alone
set_option linter.unusedVariables false
set_option linter.unusedSimpArgs false

/-! ### lathelaw14_SchedValues: function 3 -/
def lathelaw14_SchedValues.f (k : Nat) (a0_0 : Int) (l0_1 : List Int) (l0_2 : List Int) (l0_3 : List (S26)) (a1 : Int) : Option (Bool) := (lathelaw14_great.f k a0_0 l0_1 l0_2 l0_3).bind fun t547 => (if t547 = true then ((lathelaw14_works.f k).bind fun t548 => (some t548)) else ((lathelaw14_twin.f k a0_0 l0_1 l0_2 l0_3).bind fun bt549 => ((sched_Value.f k bt549.1 bt549.2.1 bt549.2.2.1 bt549.2.2.2 a1).bind fun bt560 => ((latheref14_Value.f k a0_0 l0_1 l0_2 l0_3 a1).bind fun bt562 => (if (wrap64 (bt560.1)) = bt562.1 then (if bt560.2 = bt562.2 then ((sched_Check.f k bt549.1 bt549.2.1 bt549.2.2.1 bt549.2.2.2).bind fun t564 => ((latheref14_Check.f k a0_0 l0_1 l0_2 l0_3).bind fun t565 => (if t564 = t565 then ((lathelaw14_same.f k a0_0 l0_1 l0_2 l0_3 bt549.1 bt549.2.1 bt549.2.2.1 bt549.2.2.2).bind fun t566 => (if t566 = true then ((lathelaw14_works.f k).bind fun t567 => (some t567)) else (none))) else (none)))) else (none)) else (none))))))
theorem lathelaw14_SchedValues.mono : ∀ a0 a1 a2 a3 a4 k, LeO (lathelaw14_SchedValues.f k a0 a1 a2 a3 a4) (lathelaw14_SchedValues.f (k + 1) a0 a1 a2 a3 a4) := by
 intro a0 a1 a2 a3 a4 k
 unfold lathelaw14_SchedValues.f
 repeat' with_reducible first
  | exact lathelaw14_great.mono _ _ _ _ _
  | exact lathelaw14_same.mono _ _ _ _ _ _ _ _ _
  | exact lathelaw14_twin.mono _ _ _ _ _
  | exact lathelaw14_works.mono _
  | exact latheref14_Check.mono _ _ _ _ _
  | exact latheref14_Value.mono _ _ _ _ _ _
  | exact sched_Check.mono _ _ _ _ _
  | exact sched_Value.mono _ _ _ _ _ _
  | exact LeO.refl _
  | exact LeO.none _
  | refine LeO.ite ?_ ?_
  | refine LeO.bind ?_ (fun _ => ?_)
def lathelaw14_SchedValues.T6 : Bool × List (List Nat × List Nat) := (true, [([], []), ([0], [0]), ([], []), ([1, 2], [1, 2]), ([3], [3]), ([4], [4]), ([4], [4]), ([5, 6, 4], [4, 5, 6]), ([4, 7], [4, 7]), ([8, 4], [8]), ([9], [9]), ([10, 9, 9], [9, 10]), ([9], [9]), ([12, 11, 9], [9, 12]), ([11, 13, 9], [9, 11, 13]), ([9, 14], [9, 14]), ([15, 13], [15]), ([16], [16]), ([16], [16]), ([17, 18, 16, 16], [16, 17, 18]), ([16, 19], [16, 19]), ([20, 19], [20]), ([21, 21], [21]), ([21, 22], [21, 22]), ([23, 22, 0, 1, 2, 3, 4, 5, 6, 7, 8, 9, 10, 11, 12, 13, 14, 15, 16, 17, 18, 19, 20, 21, 22, 23], [23])])
def lathelaw14_SchedValues.B6 : List Nat := [0, 1, 0, 7, 15, 31, 31, 127, 255, 511, 1023, 2047, 1023, 8191, 16383, 32767, 65535, 131071, 131071, 524287, 1048575, 2097151, 4194303, 8388607, 16777215]
theorem lathelaw14_SchedValues.tab6 : rtab .any (opsOf Tryd.f3 6) = lathelaw14_SchedValues.T6 := by kernel_rfl
theorem lathelaw14_SchedValues.bits6 : waitsOk lathelaw14_SchedValues.T6.2 lathelaw14_SchedValues.B6 = true := by kernel_rfl
set_option maxHeartbeats 8000000 in
set_option maxRecDepth 100000 in
theorem lathelaw14_SchedValues.calls (k : Nat) (a0_0 : Int) (A0_1 : Option Addr) (c0_1 : Nat) (l0_1 : List Int) (A0_2 : Option Addr) (c0_2 : Nat) (l0_2 : List Int) (A0_3 : Option Addr) (c0_3 : Nat) (l0_3 : List (S26)) (a1 : Int) (r : Bool) (w : World) (hl_ : Wav.Lies w) (hr0_1 : Kd.C (Kd.int .u32) w A0_1 l0_1.length l0_1) (hc0_1 : l0_1.length ≤ c0_1) (hr0_2 : Kd.C (Kd.int .i64) w A0_2 l0_2.length l0_2) (hc0_2 : l0_2.length ≤ c0_2) (hr0_3 : Kd.C k26 w A0_3 l0_3.length l0_3) (hc0_3 : l0_3.length ≤ c0_3) (h : lathelaw14_SchedValues.f k a0_0 l0_1 l0_2 l0_3 a1 = some r) :
  Calls Tryd.prog 3 #[.agg #[.int .i64 a0_0, .slice A0_1 l0_1.length c0_1, .slice A0_2 l0_2.length c0_2, .slice A0_3 l0_3.length c0_3], .int .i64 a1] w fun e w' => e = .returned (.bool r) ∧ Below w.heap.size w w' := by
 have hu26 := Tryd.underlying26
 have HR0_1 := Aside0.mk hr0_1
 have HC0_1 := Aside0.mk hc0_1
 clear hr0_1 hc0_1
 have HR0_2 := Aside0.mk hr0_2
 have HC0_2 := Aside0.mk hc0_2
 clear hr0_2 hc0_2
 have HR0_3 := Aside0.mk hr0_3
 have HC0_3 := Aside0.mk hc0_3
 clear hr0_3 hc0_3
 have HB := Aside0.mk (Below.refl w.heap.size w)
 have H : ((lathelaw14_great.f k a0_0 l0_1 l0_2 l0_3).bind fun t547 => (if t547 = true then ((lathelaw14_works.f k).bind fun t548 => (some t548)) else ((lathelaw14_twin.f k a0_0 l0_1 l0_2 l0_3).bind fun bt549 => ((sched_Value.f k bt549.1 bt549.2.1 bt549.2.2.1 bt549.2.2.2 a1).bind fun bt560 => ((latheref14_Value.f k a0_0 l0_1 l0_2 l0_3 a1).bind fun bt562 => (if (wrap64 (bt560.1)) = bt562.1 then (if bt560.2 = bt562.2 then ((sched_Check.f k bt549.1 bt549.2.1 bt549.2.2.1 bt549.2.2.2).bind fun t564 => ((latheref14_Check.f k a0_0 l0_1 l0_2 l0_3).bind fun t565 => (if t564 = t565 then ((lathelaw14_same.f k a0_0 l0_1 l0_2 l0_3 bt549.1 bt549.2.1 bt549.2.2.1 bt549.2.2.2).bind fun t566 => (if t566 = true then ((lathelaw14_works.f k).bind fun t567 => (some t567)) else (none))) else (none)))) else (none)) else (none))))))) = some r := h
 clear h
 replace H := Option.bind_eq_some_iff.mp H
 obtain ⟨t547, A30, H⟩ := H
 have A3 := Aside0.mk A30
 clear A30
 by_cases c4 : t547 = true
 ·subst c4
  rw [if_pos rfl] at H
  replace H := Option.bind_eq_some_iff.mp H
  obtain ⟨t548, A50, H⟩ := H
  have A5 := Aside0.mk A50
  clear A50
  obtain rfl := Option.some.inj H
  go_enter Tryd.func3, Tryd.ntmps3
  go_wp2_with (first | ((with_reducible refine gate_dst (N := 2) rfl ?_); refine box_event ?hg (N := 2) ?hd (cs := #[.int .i64 a0_0, .slice A0_1 l0_1.length c0_1, .slice A0_2 l0_2.length c0_2, .slice A0_3 l0_3.length c0_3]) (t := 26) ?hr ?_; (case hd => rfl); (case hg => rfl); (case hr => first | (go_simp; done) | (go_simp; rfl)); intro gb546 hg w6 hbox hb; have BK546 := Aside0.mk (hbox); have GW546 := bsz (w := w) hg; have GE546 := bsz (w := w) hg; replace HB := bst hb; clear hb hbox hg; obtain ⟨_, _, _, _, _, _, _, _⟩ := bx4 BK546.out) | ((with_reducible refine gate_callee (f := 10) rfl ?_); refine gC (some 11) Tryd.func10 (lathelaw14_great.calls k a0_0 _ _ l0_1 _ _ l0_2 _ _ l0_3 true _ (cb HR0_1) HC0_1.out (cb HR0_2) HC0_2.out (cb HR0_3) HC0_3.out A3.out) (fun w8 hb => ?_); clear A3; replace BK546 := bks BK546 hb; replace HB := bst hb; (try clear hb)) | ((with_reducible refine gate_callee (f := 11) rfl ?_); refine gC (some 12) Tryd.func11 (lathelaw14_works.calls k  t548 _ (Wav.Lies.keep hl_ hbb) A5.out) (fun w9 hb => ?_); clear A5; replace BK546 := bks BK546 hb; replace HB := bst hb; (try clear hb)))
  go_ret
  exact fin_
 replace c4 := Bool.eq_false_iff.mpr c4
 subst c4
 rw [if_neg (show ¬ (false = true) by decide)] at H
 replace H := Option.bind_eq_some_iff.mp H
 obtain ⟨⟨t549, t550, t553, t556⟩, A100, H⟩ := H
 have A10 := Aside0.mk A100
 clear A100
 replace H := Option.bind_eq_some_iff.mp H
 obtain ⟨⟨t560, t561⟩, A110, H⟩ := H
 have A11 := Aside0.mk A110
 clear A110
 replace H := Option.bind_eq_some_iff.mp H
 obtain ⟨⟨t562, t563⟩, A120, H⟩ := H
 have A12 := Aside0.mk A120
 clear A120
 by_cases c13 : (wrap64 (t560)) = t562
 rotate_left
 ·rw [if_neg c13] at H
  have c13b0 : ((wrap64 (t560)) == t562) = false := beq_eq_false_iff_ne.mpr c13
  have c13b1 : ((wrap64 (t560)) != t562) = true := bne_iff_ne.mpr c13
  exact absurd H (by simp)
 rw [if_pos c13] at H
 have c13b0 : ((wrap64 (t560)) == t562) = true := beq_iff_eq.mpr c13
 have c13b1 : ((wrap64 (t560)) != t562) = false := bne_eq_false_iff_eq.mpr c13
 clear c13
 by_cases c14 : t561 = t563
 rotate_left
 ·rw [if_neg c14] at H
  have c14b0 : (t561 == t563) = false := beq_eq_false_iff_ne.mpr c14
  have c14b1 : (t561 != t563) = true := bne_iff_ne.mpr c14
  exact absurd H (by simp)
 rw [if_pos c14] at H
 have c14b0 : (t561 == t563) = true := beq_iff_eq.mpr c14
 have c14b1 : (t561 != t563) = false := bne_eq_false_iff_eq.mpr c14
 clear c14
 replace H := Option.bind_eq_some_iff.mp H
 obtain ⟨t564, A150, H⟩ := H
 have A15 := Aside0.mk A150
 clear A150
 replace H := Option.bind_eq_some_iff.mp H
 obtain ⟨t565, A160, H⟩ := H
 have A16 := Aside0.mk A160
 clear A160
 by_cases c17 : t564 = t565
 rotate_left
 ·rw [if_neg c17] at H
  have c17b0 : (t564 == t565) = false := beq_eq_false_iff_ne.mpr c17
  have c17b1 : (t564 != t565) = true := bne_iff_ne.mpr c17
  exact absurd H (by simp)
 rw [if_pos c17] at H
 have c17b0 : (t564 == t565) = true := beq_iff_eq.mpr c17
 have c17b1 : (t564 != t565) = false := bne_eq_false_iff_eq.mpr c17
 clear c17
 replace H := Option.bind_eq_some_iff.mp H
 obtain ⟨t566, A180, H⟩ := H
 have A18 := Aside0.mk A180
 clear A180
 by_cases c19 : t566 = true
 rotate_left
 ·replace c19 := Bool.eq_false_iff.mpr c19
  subst c19
  rw [if_neg (show ¬ (false = true) by decide)] at H
  exact absurd H (by simp)
 subst c19
 rw [if_pos rfl] at H
 replace H := Option.bind_eq_some_iff.mp H
 obtain ⟨t567, A200, H⟩ := H
 have A20 := Aside0.mk A200
 clear A200
 obtain rfl := Option.some.inj H
 go_enter Tryd.func3, Tryd.ntmps3
 try go_wp2_with (first | ((with_reducible refine gate_dst (N := 2) rfl ?_); refine box_event ?hg (N := 2) ?hd (cs := #[.int .i64 a0_0, .slice A0_1 l0_1.length c0_1, .slice A0_2 l0_2.length c0_2, .slice A0_3 l0_3.length c0_3]) (t := 26) ?hr ?_; (case hd => rfl); (case hg => rfl); (case hr => first | (go_simp; done) | (go_simp; rfl)); intro gb546 hg w21 hbox hb; have BK546 := Aside0.mk (hbox); have GW546 := bsz (w := w) hg; have GE546 := bsz (w := w) hg; replace HB := bst hb; clear hb hbox hg; obtain ⟨_, _, _, _, _, _, _, _⟩ := bx4 BK546.out) | ((with_reducible refine gate_callee (f := 10) rfl ?_); refine gC (some 11) Tryd.func10 (lathelaw14_great.calls k a0_0 _ _ l0_1 _ _ l0_2 _ _ l0_3 false _ (cb HR0_1) HC0_1.out (cb HR0_2) HC0_2.out (cb HR0_3) HC0_3.out A3.out) (fun w23 hb => ?_); clear A3; replace BK546 := bks BK546 hb; replace HB := bst hb; (try clear hb); obtain ⟨_, _, _, _, _, _, _, _⟩ := bx4 BK546.out) | ((with_reducible refine gate_callee (f := 12) rfl ?_); refine gL (some 14) Tryd.func12 #[.agg #[.int .i64 a0_0, .slice A0_1 l0_1.length c0_1, .slice A0_2 l0_2.length c0_2, .slice A0_3 l0_3.length c0_3]] ?_; (with_reducible refine (lathelaw14_twin.calls k a0_0 _ _ l0_1 _ _ l0_2 _ _ l0_3 t549 t550 t553 t556 _ (cb HR0_1) HC0_1.out (cb HR0_2) HC0_2.out (cb HR0_3) HC0_3.out A10.out).mono ?_); clear A10; rintro e w25 ⟨v551, v554, v557, rfl, ho0, ho1, ho2, hb⟩; refine ⟨_, rfl, ?_⟩; have HO552 := Aside0.mk (Kd.R_lower ho0 (below_size hbb)); have HO555 := Aside0.mk (Kd.R_lower ho1 (below_size hbb)); have HO558 := Aside0.mk (Kd.R_lower (Kd.R_newB ho2 (g := gb546) (o := .cells #[.int .i64 a0_0, .slice A0_1 l0_1.length c0_1, .slice A0_2 l0_2.length c0_2, .slice A0_3 l0_3.length c0_3] 26 (0, 0)) bkk) (below_size hbb)); replace BK546 := bks BK546 hb; replace HB := bst hb; (try clear hb); (try clear ho0); (try clear ho1); (try clear ho2)) | ((with_reducible refine gate_dst (N := 5) rfl ?_); refine box_event ?hg (N := 5) ?hd (cs := #[.int .i64 0, .slice none 0 0, .slice none 0 0, .slice none 0 0]) (t := 26) ?hr ?_; (case hd => rfl); (case hg => rfl); (case hr => first | (go_simp; done) | (go_simp; rfl)); intro gb559 hg w26 hbox hb; have BK559 := Aside0.mk (hbox); have GW559 := bsz (w := w) hg; have GE559 := bsz (w := w) hg; have NB546_559 := Aside0.mk ((by rw [hg]; exact Nat.ne_of_lt (blk_lt (g := gb546) (o := .cells #[.int .i64 a0_0, .slice A0_1 l0_1.length c0_1, .slice A0_2 l0_2.length c0_2, .slice A0_3 l0_3.length c0_3] 26 (0, 0)) bkk) : gb546 ≠ gb559)); have NB559_546 := Aside0.mk ((by rw [hg]; exact Nat.ne_of_gt (blk_lt (g := gb546) (o := .cells #[.int .i64 a0_0, .slice A0_1 l0_1.length c0_1, .slice A0_2 l0_2.length c0_2, .slice A0_3 l0_3.length c0_3] 26 (0, 0)) bkk) : gb559 ≠ gb546)); replace HO552 := ros HO552 hb; replace HO555 := ros HO555 hb; replace HO558 := Aside0.mk (Kd.R_below (Kd.R_elderB (by (with_reducible repeat (first | apply Kd.R_alloc | apply Kd.R_drewN | apply Kd.R_drew)); exact HO558.out) gb559 (Nat.le_of_eq hg.symm)) hb); replace BK546 := bks BK546 hb; replace HB := bst hb; clear hb hbox hg; have hnb27 := NB559_546.out; have hnc27 := NB546_559.out; obtain ⟨_, _, _, _, _, _, _, _⟩ := bx4 BK559.out; obtain ⟨Ao29, co29, eo29⟩ := Kd.R_slice HO552.out; subst eo29; obtain ⟨Ao30, co30, eo30⟩ := Kd.R_slice HO555.out; subst eo30; obtain ⟨Ao31, co31, eo31⟩ := Kd.R_slice HO558.out; subst eo31) | ((with_reducible refine gate_callee (f := 13) rfl ?_); refine gL (some 18) Tryd.func13 #[.agg #[.int .i64 t549, .slice Ao29 t550.length co29, .slice Ao30 t553.length co30, .slice Ao31 t556.length co31], .int .i64 a1] ?_; (with_reducible refine (sched_Value.calls k t549 _ _ t550 _ _ t553 _ _ t556 a1 t560 t561 _ (Wav.Lies.keep hl_ hbb) ?side1 ?side2 ?side3 ?side4 ?side5 ?side6 A11.out).mono ?_); (case side1 => refine (Kd.R_reads' (e := 31) (base := w.heap.size) (ok := fun k_ => True) (n := t550.length) (c := co29) ?_).2.2; exact (by (with_reducible repeat (first | apply Kd.R_alloc | apply Kd.R_drewN | apply Kd.R_drew)); exact (Kd.R_mono (Kd.R_far (p := ⟨gb559, 3, none⟩) (Kd.R_far (p := ⟨gb559, 2, none⟩) (Kd.R_far (p := ⟨gb559, 1, none⟩) (Kd.R_far (p := ⟨gb559, 0, none⟩) (Kd.R_types HO552.out BK559.out (by decide)) (fun _ hk => hk.2) (.int .i64 t549)) (fun _ hk => hk.2) (.slice Ao29 t550.length co29)) (fun _ hk => hk.2) (.slice Ao30 t553.length co30)) (fun _ hk => hk.2) (.slice Ao31 t556.length co31)) (fun _ h_ => h_.1)))); (case side2 => exact (Kd.R_reads' HO552.out).2.1); (case side3 => refine (Kd.R_reads' (e := 3) (base := w.heap.size) (ok := fun k_ => True) (n := t553.length) (c := co30) ?_).2.2; exact (by (with_reducible repeat (first | apply Kd.R_alloc | apply Kd.R_drewN | apply Kd.R_drew)); exact (Kd.R_mono (Kd.R_far (p := ⟨gb559, 3, none⟩) (Kd.R_far (p := ⟨gb559, 2, none⟩) (Kd.R_far (p := ⟨gb559, 1, none⟩) (Kd.R_far (p := ⟨gb559, 0, none⟩) (Kd.R_types HO555.out BK559.out (by decide)) (fun _ hk => hk.2) (.int .i64 t549)) (fun _ hk => hk.2) (.slice Ao29 t550.length co29)) (fun _ hk => hk.2) (.slice Ao30 t553.length co30)) (fun _ hk => hk.2) (.slice Ao31 t556.length co31)) (fun _ h_ => h_.1)))); (case side4 => exact (Kd.R_reads' HO555.out).2.1); (case side5 => refine (Kd.R_reads' (e := 26) (base := w.heap.size) (ok := fun k_ => (((some k_ ≠ (.slice Ao29 t550.length co29 : Value).ownBlock ∧ some k_ ≠ (.slice Ao30 t553.length co30 : Value).ownBlock) ∧ k_ ≠ gb546) ∧ k_ ≠ gb559)) (n := t556.length) (c := co31) ?_).2.2; exact (by (with_reducible repeat (first | apply Kd.R_alloc | apply Kd.R_drewN | apply Kd.R_drew)); exact (Kd.R_mono (Kd.R_far (p := ⟨gb559, 3, none⟩) (Kd.R_far (p := ⟨gb559, 2, none⟩) (Kd.R_far (p := ⟨gb559, 1, none⟩) (Kd.R_far (p := ⟨gb559, 0, none⟩) (Kd.R_mono HO558.out (fun k_ hk => (⟨hk, hk.2⟩ : _ ∧ k_ ≠ gb559))) (fun _ hk => hk.2) (.int .i64 t549)) (fun _ hk => hk.2) (.slice Ao29 t550.length co29)) (fun _ hk => hk.2) (.slice Ao30 t553.length co30)) (fun _ hk => hk.2) (.slice Ao31 t556.length co31)) (fun _ h_ => h_.1)))); (case side6 => exact (Kd.R_reads' HO558.out).2.1); clear A11; rintro e w32 ⟨rfl, hb⟩; refine ⟨_, rfl, ?_⟩; replace HO552 := Aside0.mk (Kd.R_below (by (with_reducible repeat (first | apply Kd.R_alloc | apply Kd.R_drewN | apply Kd.R_drew)); exact (Kd.R_mono (Kd.R_far (p := ⟨gb559, 3, none⟩) (Kd.R_far (p := ⟨gb559, 2, none⟩) (Kd.R_far (p := ⟨gb559, 1, none⟩) (Kd.R_far (p := ⟨gb559, 0, none⟩) (Kd.R_types HO552.out BK559.out (by decide)) (fun _ hk => hk.2) (.int .i64 t549)) (fun _ hk => hk.2) (.slice Ao29 t550.length co29)) (fun _ hk => hk.2) (.slice Ao30 t553.length co30)) (fun _ hk => hk.2) (.slice Ao31 t556.length co31)) (fun _ h_ => h_.1))) hb); replace HO555 := Aside0.mk (Kd.R_below (by (with_reducible repeat (first | apply Kd.R_alloc | apply Kd.R_drewN | apply Kd.R_drew)); exact (Kd.R_mono (Kd.R_far (p := ⟨gb559, 3, none⟩) (Kd.R_far (p := ⟨gb559, 2, none⟩) (Kd.R_far (p := ⟨gb559, 1, none⟩) (Kd.R_far (p := ⟨gb559, 0, none⟩) (Kd.R_types HO555.out BK559.out (by decide)) (fun _ hk => hk.2) (.int .i64 t549)) (fun _ hk => hk.2) (.slice Ao29 t550.length co29)) (fun _ hk => hk.2) (.slice Ao30 t553.length co30)) (fun _ hk => hk.2) (.slice Ao31 t556.length co31)) (fun _ h_ => h_.1))) hb); replace HO558 := Aside0.mk (Kd.R_below (by (with_reducible repeat (first | apply Kd.R_alloc | apply Kd.R_drewN | apply Kd.R_drew)); exact (Kd.R_mono (Kd.R_far (p := ⟨gb559, 3, none⟩) (Kd.R_far (p := ⟨gb559, 2, none⟩) (Kd.R_far (p := ⟨gb559, 1, none⟩) (Kd.R_far (p := ⟨gb559, 0, none⟩) (Kd.R_mono HO558.out (fun k_ hk => (⟨hk, hk.2⟩ : _ ∧ k_ ≠ gb559))) (fun _ hk => hk.2) (.int .i64 t549)) (fun _ hk => hk.2) (.slice Ao29 t550.length co29)) (fun _ hk => hk.2) (.slice Ao30 t553.length co30)) (fun _ hk => hk.2) (.slice Ao31 t556.length co31)) (fun _ h_ => h_.1))) hb); replace BK546 := bks BK546 hb; replace BK559 := Aside0.mk (blk_below (g := gb559) (o := .cells #[.int .i64 t549, .slice Ao29 t550.length co29, .slice Ao30 t553.length co30, .slice Ao31 t556.length co31] 26 (0, 0)) (by (with_reducible repeat (first | refine blk_drewN ?_ _ | refine blk_drew ?_ | refine blk_alloc ?_ _)); refine blk_put (cs := #[.int .i64 t549, .slice Ao29 t550.length co29, .slice Ao30 t553.length co30, .slice none 0 0]) ?_ 3 _ rfl; (with_reducible repeat (first | refine blk_drewN ?_ _ | refine blk_drew ?_ | refine blk_alloc ?_ _)); refine blk_put (cs := #[.int .i64 t549, .slice Ao29 t550.length co29, .slice none 0 0, .slice none 0 0]) ?_ 2 _ rfl; (with_reducible repeat (first | refine blk_drewN ?_ _ | refine blk_drew ?_ | refine blk_alloc ?_ _)); refine blk_put (cs := #[.int .i64 t549, .slice none 0 0, .slice none 0 0, .slice none 0 0]) ?_ 1 _ rfl; (with_reducible repeat (first | refine blk_drewN ?_ _ | refine blk_drew ?_ | refine blk_alloc ?_ _)); refine blk_put (cs := #[.int .i64 0, .slice none 0 0, .slice none 0 0, .slice none 0 0]) ?_ 0 _ rfl; (with_reducible repeat (first | refine blk_drewN ?_ _ | refine blk_drew ?_ | refine blk_alloc ?_ _)); exact BK559.out) hb); replace HB := bst hb; (try clear hb); obtain ⟨_, _, _, _, _, _, _, _⟩ := bx4 BK546.out) | ((with_reducible refine gate_callee (f := 14) rfl ?_); refine gC (some 24) Tryd.func14 (latheref14_Value.calls k a0_0 _ _ l0_1 _ _ l0_2 _ _ l0_3 a1 t562 t563 _ (cb HR0_1) HC0_1.out (cb HR0_2) HC0_2.out (cb HR0_3) HC0_3.out A12.out) (fun w34 hb => ?_); clear A12; replace HO552 := ros HO552 hb; replace HO555 := ros HO555 hb; replace HO558 := ros HO558 hb; replace BK546 := bks BK546 hb; replace BK559 := bks BK559 hb; replace HB := bst hb; (try clear hb)))
 replace HO552 := Aside0.mk (Kd.R_drew HO552.out)
 replace HO555 := Aside0.mk (Kd.R_drew HO555.out)
 replace HO558 := Aside0.mk (Kd.R_drew HO558.out)
 replace BK546 := Aside0.mk (blk_drew BK546.out)
 replace BK559 := Aside0.mk (blk_drew BK559.out)
 replace HB := Aside0.mk (below_drew1 HB.out)
 refine st (S := fun w' => w'.cell? ⟨gb559, 0, none⟩ = some (.int .i64 t549) ∧ w'.cell? ⟨gb559, 1, none⟩ = some (.slice Ao29 t550.length co29) ∧ w'.cell? ⟨gb559, 2, none⟩ = some (.slice Ao30 t553.length co30) ∧ w'.cell? ⟨gb559, 3, none⟩ = some (.slice Ao31 t556.length co31) ∧ w'.cell? ⟨gb546, 0, none⟩ = some (.int .i64 a0_0) ∧ w'.cell? ⟨gb546, 1, none⟩ = some (.slice A0_1 l0_1.length c0_1) ∧ w'.cell? ⟨gb546, 2, none⟩ = some (.slice A0_2 l0_2.length c0_2) ∧ w'.cell? ⟨gb546, 3, none⟩ = some (.slice A0_3 l0_3.length c0_3)) (ds := []) (fun hHeld => ?_); refine with_tabW lathelaw14_SchedValues.tab6 lathelaw14_SchedValues.bits6 (fun HT_ HW_ => ?_)
 generalize w34.drew = w35 at HO552 HO555 HO558 BK546 BK559 HB hHeld ⊢
 refine pu (i := 0) (N := some 27) ?_
 refine pu (i := 1) (N := some 28) ?_
 refine pu (i := 2) (N := some 29) ?_
 refine pu (i := 3) (N := some 30) ?_
 refine pu (i := 4) (N := some 31) ?_
 refine pu (i := 5) (N := some 32) ?_
 refine pu (i := 6) (N := some 33) ?_
 refine pu (i := 7) (N := some 34) ?_
 refine pu (i := 8) (N := some 35) ?_
 refine pu (i := 9) (N := some 36) ?_
 refine tk (i := 10) (N := some 37) ?_
 refine tk (i := 12) (N := some 39) ?_
 refine on (i := 11) (N := some 38) (fun K hK => ?_)
 refine gA Tryd.func15 #[.agg #[.int .i64 t549, .slice Ao29 t550.length co29, .slice Ao30 t553.length co30, .slice Ao31 t556.length co31]] ?_
 with_reducible refine (sched_Check.calls k t549 _ _ t550 _ _ t553 _ _ t556 t564 _ ?side1 ?side2 ?side3 ?side4 ?side5 ?side6 A15.out).mono ?_
 (case side1 => repeat (first | exact (Kd.R_reads' HO552.out).2.2 | (with_reducible refine Kd.C_alloc ?_ _) | (with_reducible refine Kd.C_drewN ?_ _) | (with_reducible refine Kd.C_drew ?_)))
 (case side2 => exact (Kd.R_reads' HO552.out).2.1)
 (case side3 => repeat (first | exact (Kd.R_reads' HO555.out).2.2 | (with_reducible refine Kd.C_alloc ?_ _) | (with_reducible refine Kd.C_drewN ?_ _) | (with_reducible refine Kd.C_drew ?_)))
 (case side4 => exact (Kd.R_reads' HO555.out).2.1)
 (case side5 => repeat (first | exact (Kd.R_reads' HO558.out).2.2 | (with_reducible refine Kd.C_alloc ?_ _) | (with_reducible refine Kd.C_drewN ?_ _) | (with_reducible refine Kd.C_drew ?_)))
 (case side6 => exact (Kd.R_reads' HO558.out).2.1)
 rintro e w36 ⟨rfl, hb⟩
 refine ⟨_, rfl, ?_⟩
 replace HO552 := ros HO552 hb
 replace HO555 := ros HO555 hb
 replace HO558 := ros HO558 hb
 replace BK546 := bks BK546 hb
 replace BK559 := bks BK559 hb
 replace HB := bst hb
 clear hb
 refine nx hK.out (fun hHeld => ?_)
 refine on (i := 13) (N := some 40) (fun K hK => ?_)
 refine gB Tryd.func16 (latheref14_Check.calls k a0_0 _ _ l0_1 _ _ l0_2 _ _ l0_3 t565 _ (cb HR0_1) HC0_1.out (cb HR0_2) HC0_2.out (cb HR0_3) HC0_3.out A16.out) (fun w37 hb => ?_)
 replace HO552 := ros HO552 hb
 replace HO555 := ros HO555 hb
 replace HO558 := ros HO558 hb
 replace BK546 := bks BK546 hb
 replace BK559 := bks BK559 hb
 replace HB := bst hb
 clear hb
 refine nx hK.out (fun hHeld => ?_)
 refine pu (i := 14) (N := some 41) ?_
 refine pu (i := 15) (N := some 42) ?_
 refine pu (i := 16) (N := some 43) ?_
 refine tk (i := 17) (N := some 44) ?_
 refine tk (i := 18) (N := some 45) ?_
 refine on (i := 19) (N := some 46) (fun K hK => ?_)
 refine gA Tryd.func17 #[.agg #[.int .i64 a0_0, .slice A0_1 l0_1.length c0_1, .slice A0_2 l0_2.length c0_2, .slice A0_3 l0_3.length c0_3], .agg #[.int .i64 t549, .slice Ao29 t550.length co29, .slice Ao30 t553.length co30, .slice Ao31 t556.length co31]] ?_
 with_reducible refine (lathelaw14_same.calls k a0_0 _ _ l0_1 _ _ l0_2 _ _ l0_3 t549 _ _ t550 _ _ t553 _ _ t556 true _ (cb HR0_1) HC0_1.out (cb HR0_2) HC0_2.out (cb HR0_3) HC0_3.out ?side7 ?side8 ?side9 ?side10 ?side11 ?side12 A18.out).mono ?_
 (case side7 => repeat (first | exact (Kd.R_reads' HO552.out).2.2 | (with_reducible refine Kd.C_alloc ?_ _) | (with_reducible refine Kd.C_drewN ?_ _) | (with_reducible refine Kd.C_drew ?_)))
 (case side8 => exact (Kd.R_reads' HO552.out).2.1)
 (case side9 => repeat (first | exact (Kd.R_reads' HO555.out).2.2 | (with_reducible refine Kd.C_alloc ?_ _) | (with_reducible refine Kd.C_drewN ?_ _) | (with_reducible refine Kd.C_drew ?_)))
 (case side10 => exact (Kd.R_reads' HO555.out).2.1)
 (case side11 => repeat (first | exact (Kd.R_reads' HO558.out).2.2 | (with_reducible refine Kd.C_alloc ?_ _) | (with_reducible refine Kd.C_drewN ?_ _) | (with_reducible refine Kd.C_drew ?_)))
 (case side12 => exact (Kd.R_reads' HO558.out).2.1)
 rintro e w38 ⟨rfl, hb⟩
 refine ⟨_, rfl, ?_⟩
 replace HO552 := ros HO552 hb
 replace HO555 := ros HO555 hb
 replace HO558 := ros HO558 hb
 replace BK546 := bks BK546 hb
 replace BK559 := bks BK559 hb
 replace HB := bst hb
 clear hb
 refine nx hK.out (fun hHeld => ?_)
 refine pu (i := 20) (N := some 47) ?_
 refine pu (i := 21) (N := some 48) ?_
 refine on (i := 22) (N := some 49) (fun K hK => ?_)
 refine gB Tryd.func11 (lathelaw14_works.calls k  t567 _ (Wav.Lies.keep hl_ hbb) A20.out) (fun w39 hb => ?_)
 replace HO552 := ros HO552 hb
 replace HO555 := ros HO555 hb
 replace HO558 := ros HO558 hb
 replace BK546 := bks BK546 hb
 replace BK559 := bks BK559 hb
 replace HB := bst hb
 clear hb
 refine nx hK.out (fun hHeld => ?_)
 refine pu (i := 23) (N := some 50) ?_
 refine pu (i := 24) (N := some 4) ?_
 refine done_ (done_of HT_.out (by kernel_rfl)) ?_
 try go_wp2
 go_ret
 exact fin_

end Go.Proofs.YtmfladkimmnccaaDoor.PW
