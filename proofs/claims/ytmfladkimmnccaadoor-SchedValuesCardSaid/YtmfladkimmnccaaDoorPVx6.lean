/- The functions of the program that a statement reaches, as plain functions, and that the machine's calls do what these say. No condition. (Printed by a program.) -/
import Derived.Test.YtmfladkimmnccaaDoorPWx0
import Derived.Test.YtmfladkimmnccaaDoorPVx5
import Derived.Test.YtmfladkimmnccaaDoorWal
namespace Go.Proofs.YtmfladkimmnccaaDoor.PW
open Go.RowKit Go.Proofs.YtmfladkimmnccaaDoorW.PrintWords Go.Proofs.YtmfladkimmnccaaDoorW.PrintLast Go.Proofs.YtmfladkimmnccaaDoorW.PrintMore Go.Proofs.YtmfladkimmnccaaDoor.Sht
attribute [local go_sem] max2_int min2_int max_two min_two max_three min_three max_four min_four   -- for this text's walks alone
set_option linter.unusedVariables false
set_option linter.unusedSimpArgs false

/-! ### latheref02_Less: function 20 -/
def latheref02_Less.j0 : Nat → Int → Int → Bool → Option (Bool)
 | 0, _, _, _ => none
 | k + 1, x0, x1, x17 => if x17 = true then (some false) else ((latheref02_key.f x0).bind fun t250 => ((latheref02_key.f x1).bind fun t251 => (some (decide (t250 < t251)))))
def latheref02_Less.f (k : Nat) (a0 : Int) (a1 : Int) : Option (Bool) := (latheref02_Of.f a0).bind fun bt237 => ((latheref02_Of.f a1).bind fun bt242 => ((latheref02_nan.f bt237.1 bt237.2.1 bt237.2.2.1 bt237.2.2.2.1 bt237.2.2.2.2 bt242.1 bt242.2.1 bt242.2.2.1 bt242.2.2.2.1 bt242.2.2.2.2).bind fun t247 => (if t247 = true then (latheref02_Less.j0 k a0 a1 true) else ((latheref02_nought.f a0).bind fun t248 => (if t248 = true then ((latheref02_nought.f a1).bind fun t249 => (latheref02_Less.j0 k a0 a1 t249)) else (latheref02_Less.j0 k a0 a1 false))))))
theorem latheref02_Less.mono_l : ∀ k, (∀ y0 y1 y2, LeO (latheref02_Less.j0 k y0 y1 y2) (latheref02_Less.j0 (k + 1) y0 y1 y2))
 | 0 => fun _ _ _ r h => by simp [latheref02_Less.j0] at h
 | k + 1 => by
  have ih0 := latheref02_Less.mono_l k
  ·intro y0 y1 y2
   unfold latheref02_Less.j0
   repeat' with_reducible first
    | exact ih0 _ _ _
    | exact LeO.refl _
    | exact LeO.none _
    | refine LeO.ite ?_ ?_
    | refine LeO.bind ?_ (fun _ => ?_)
theorem latheref02_Less.mono : ∀ a0 a1 k, LeO (latheref02_Less.f k a0 a1) (latheref02_Less.f (k + 1) a0 a1) := by
 intro a0 a1 k
 have ih0 := latheref02_Less.mono_l k
 unfold latheref02_Less.f
 repeat' with_reducible first
  | exact ih0 _ _ _
  | exact LeO.refl _
  | exact LeO.none _
  | refine LeO.ite ?_ ?_
  | refine LeO.bind ?_ (fun _ => ?_)
set_option maxHeartbeats 8000000 in
set_option maxRecDepth 100000 in
theorem latheref02_Less.calls (k : Nat) (a0 : Int) (a1 : Int) (r : Bool) (w : World) (h : latheref02_Less.f k a0 a1 = some r) :
  Calls Tryd.prog 20 #[.int .i64 a0, .int .i64 a1] w fun e w' => e = .returned (.bool r) ∧ Below w.heap.size w w' := by
 have HB := Aside0.mk (Below.refl w.heap.size w)
 have H : ((latheref02_Of.f a0).bind fun bt237 => ((latheref02_Of.f a1).bind fun bt242 => ((latheref02_nan.f bt237.1 bt237.2.1 bt237.2.2.1 bt237.2.2.2.1 bt237.2.2.2.2 bt242.1 bt242.2.1 bt242.2.2.1 bt242.2.2.2.1 bt242.2.2.2.2).bind fun t247 => (if t247 = true then (latheref02_Less.j0 k a0 a1 true) else ((latheref02_nought.f a0).bind fun t248 => (if t248 = true then ((latheref02_nought.f a1).bind fun t249 => (latheref02_Less.j0 k a0 a1 t249)) else (latheref02_Less.j0 k a0 a1 false))))))) = some r := h
 clear h
 have HC3 := Aside0.mk H
 clear H
 go_enter Tryd.func20, Tryd.ntmps20
 go_upto_region 1 with (fail)
 go_cut [17] (fun v17 wc => ∃ (kq : Nat) (x17_2 : Bool), v17 = .bool x17_2 ∧ Aside0 (latheref02_Less.j0 kq a0 a1 x17_2 = some r) ∧ Aside0 (kq ≤ k) ∧ Aside0 (Below w.heap.size w wc))
 case first =>
  have H := HC3.out
  clear HC3
  replace H := Option.bind_eq_some_iff.mp H
  obtain ⟨⟨t237, t238, t239, t240, t241⟩, A40, H⟩ := H
  have A4 := Aside0.mk A40
  clear A40
  replace H := Option.bind_eq_some_iff.mp H
  obtain ⟨⟨t242, t243, t244, t245, t246⟩, A50, H⟩ := H
  have A5 := Aside0.mk A50
  clear A50
  replace H := Option.bind_eq_some_iff.mp H
  obtain ⟨t247, A60, H⟩ := H
  have A6 := Aside0.mk A60
  clear A60
  by_cases c7 : t247 = true
  ·subst c7
   rw [if_pos rfl] at H
   have H' := Aside0.mk H
   clear H
   go_wp2_with (first | ((with_reducible refine gate_callee (f := 47) rfl ?_); refine gC (some 6) Tryd.func47 (latheref02_Of.calls a0 t237 t238 t239 t240 t241 _ A4.out) (fun w8 hb => ?_); clear A4; replace HB := bst hb; (try clear hb)) | ((with_reducible refine gate_callee (f := 47) rfl ?_); refine gC (some 8) Tryd.func47 (latheref02_Of.calls a1 t242 t243 t244 t245 t246 _ A5.out) (fun w9 hb => ?_); clear A5; replace HB := bst hb; (try clear hb)) | ((with_reducible refine gate_callee (f := 46) rfl ?_); refine gC (some 9) Tryd.func46 (latheref02_nan.calls t237 t238 t239 t240 t241 t242 t243 t244 t245 t246 true _ A6.out) (fun w10 hb => ?_); clear A6; replace HB := bst hb; (try clear hb)))
   go_meet
   case rel => exact ⟨_, (true), id_, H', ⟨by first | omega | exact Nat.le_refl _⟩, ⟨hbb⟩⟩
  replace c7 := Bool.eq_false_iff.mpr c7
  subst c7
  rw [if_neg (show ¬ (false = true) by decide)] at H
  replace H := Option.bind_eq_some_iff.mp H
  obtain ⟨t248, A110, H⟩ := H
  have A11 := Aside0.mk A110
  clear A110
  by_cases c12 : t248 = true
  rotate_left
  ·replace c12 := Bool.eq_false_iff.mpr c12
   subst c12
   rw [if_neg (show ¬ (false = true) by decide)] at H
   have H' := Aside0.mk H
   clear H
   go_wp2_with (first | ((with_reducible refine gate_callee (f := 47) rfl ?_); refine gC (some 6) Tryd.func47 (latheref02_Of.calls a0 t237 t238 t239 t240 t241 _ A4.out) (fun w17 hb => ?_); clear A4; replace HB := bst hb; (try clear hb)) | ((with_reducible refine gate_callee (f := 47) rfl ?_); refine gC (some 8) Tryd.func47 (latheref02_Of.calls a1 t242 t243 t244 t245 t246 _ A5.out) (fun w18 hb => ?_); clear A5; replace HB := bst hb; (try clear hb)) | ((with_reducible refine gate_callee (f := 46) rfl ?_); refine gC (some 9) Tryd.func46 (latheref02_nan.calls t237 t238 t239 t240 t241 t242 t243 t244 t245 t246 false _ A6.out) (fun w19 hb => ?_); clear A6; replace HB := bst hb; (try clear hb)) | (go_at_call 48; (with_reducible refine (latheref02_nought.calls a0 false _ A11.out).mono ?_); clear A11; rintro e w' ⟨rfl, ⟨nd, rfl⟩⟩))
   go_meet
   case rel => exact ⟨_, (false), id_, H', ⟨by first | omega | exact Nat.le_refl _⟩, ⟨hbb⟩⟩
  subst c12
  rw [if_pos rfl] at H
  replace H := Option.bind_eq_some_iff.mp H
  obtain ⟨t249, A130, H⟩ := H
  have A13 := Aside0.mk A130
  clear A130
  have H' := Aside0.mk H
  clear H
  go_wp2_with (first | ((with_reducible refine gate_callee (f := 47) rfl ?_); refine gC (some 6) Tryd.func47 (latheref02_Of.calls a0 t237 t238 t239 t240 t241 _ A4.out) (fun w14 hb => ?_); clear A4; replace HB := bst hb; (try clear hb)) | ((with_reducible refine gate_callee (f := 47) rfl ?_); refine gC (some 8) Tryd.func47 (latheref02_Of.calls a1 t242 t243 t244 t245 t246 _ A5.out) (fun w15 hb => ?_); clear A5; replace HB := bst hb; (try clear hb)) | ((with_reducible refine gate_callee (f := 46) rfl ?_); refine gC (some 9) Tryd.func46 (latheref02_nan.calls t237 t238 t239 t240 t241 t242 t243 t244 t245 t246 false _ A6.out) (fun w16 hb => ?_); clear A6; replace HB := bst hb; (try clear hb)) | (go_at_call 48; (with_reducible refine (latheref02_nought.calls a0 true _ A11.out).mono ?_); clear A11; rintro e w' ⟨rfl, ⟨nd, rfl⟩⟩) | (go_at_call 48; (with_reducible refine (latheref02_nought.calls a1 t249 _ A13.out).mono ?_); clear A13; rintro e w' ⟨rfl, ⟨nd, rfl⟩⟩))
  go_meet
  case rel => exact ⟨_, (t249), id_, H', ⟨by first | omega | exact Nat.le_refl _⟩, ⟨hbb⟩⟩
 case rest =>
  clear HC3
  obtain ⟨kq, x17_2, rfl, HA, HJ2, HB⟩ := hcut
  cases kq with
  | zero => exact absurd HA.out (by simp [latheref02_Less.j0])
  | succ kj2 =>
   have H := HA.out
   clear HA
   simp only [latheref02_Less.j0] at H
   by_cases c20 : x17_2 = true
   ·subst c20
    rw [if_pos rfl] at H
    obtain rfl := Option.some.inj H
    go_wp2
    go_ret
    exact fin_
   replace c20 := Bool.eq_false_iff.mpr c20
   subst c20
   rw [if_neg (show ¬ (false = true) by decide)] at H
   replace H := Option.bind_eq_some_iff.mp H
   obtain ⟨t250, A210, H⟩ := H
   have A21 := Aside0.mk A210
   clear A210
   replace H := Option.bind_eq_some_iff.mp H
   obtain ⟨t251, A220, H⟩ := H
   have A22 := Aside0.mk A220
   clear A220
   obtain rfl := Option.some.inj H
   go_wp2_with (first | ((with_reducible refine gate_callee (f := 49) rfl ?_); refine gL (some 19) Tryd.func49 #[.int .i64 a0] ?_; (with_reducible refine (latheref02_key.calls a0 t250 _ A21.out).mono ?_); clear A21; rintro e w' ⟨rfl, ⟨nd, rfl⟩⟩; refine ⟨_, rfl, ?_⟩) | ((with_reducible refine gate_callee (f := 49) rfl ?_); refine gL (some 21) Tryd.func49 #[.int .i64 a1] ?_; (with_reducible refine (latheref02_key.calls a1 t251 _ A22.out).mono ?_); clear A22; rintro e w' ⟨rfl, ⟨nd, rfl⟩⟩; refine ⟨_, rfl, ?_⟩))
   go_ret
   exact fin_

/-! ### latheref02_Finite: function 24 -/
def latheref02_Finite.f (a0 : Int) : Option (Bool) := (latheref02_Of.f a0).bind fun bt252 => (if bt252.2.2.2.2 = true then (some false) else (some (!bt252.2.2.2.1)))
set_option maxHeartbeats 8000000 in
set_option maxRecDepth 100000 in
theorem latheref02_Finite.calls (a0 : Int) (r : Bool) (w : World) (h : latheref02_Finite.f a0 = some r) :
  Calls Tryd.prog 24 #[.int .i64 a0] w fun e w' => e = .returned (.bool r) ∧ Below w.heap.size w w' := by
 have hu62 := Tryd.underlying62
 have HB := Aside0.mk (Below.refl w.heap.size w)
 have H : ((latheref02_Of.f a0).bind fun bt252 => (if bt252.2.2.2.2 = true then (some false) else (some (!bt252.2.2.2.1)))) = some r := h
 clear h
 replace H := Option.bind_eq_some_iff.mp H
 obtain ⟨⟨t252, t253, t254, t255, t256⟩, A20, H⟩ := H
 have A2 := Aside0.mk A20
 clear A20
 by_cases c3 : t256 = true
 ·subst c3
  rw [if_pos rfl] at H
  obtain rfl := Option.some.inj H
  go_enter Tryd.func24, Tryd.ntmps24
  go_wp2_with (first | ((with_reducible refine gate_callee (f := 47) rfl ?_); refine gC (some 5) Tryd.func47 (latheref02_Of.calls a0 t252 t253 t254 t255 true _ A2.out) (fun w4 hb => ?_); clear A2; replace HB := bst hb; (try clear hb)) | ((with_reducible refine gate_dst (N := 3) rfl ?_); refine box_event ?hg (N := 3) ?hd (cs := #[.bool false, .int .u64 0, .int .i64 0, .bool false, .bool false]) (t := 62) ?hr ?_; (case hd => rfl); (case hg => rfl); (case hr => first | (go_simp; done) | (go_simp; rfl)); intro gb257 hg w5 hbox hb; have BK257 := Aside0.mk (hbox); have GW257 := bsz (w := w) hg; have GE257 := bsz (w := w) hg; replace HB := bst hb; clear hb hbox hg; obtain ⟨_, _, _, _, _, _, _, _, _, _⟩ := bx5 BK257.out))
  go_ret
  exact fin_
 replace c3 := Bool.eq_false_iff.mpr c3
 subst c3
 rw [if_neg (show ¬ (false = true) by decide)] at H
 obtain rfl := Option.some.inj H
 go_enter Tryd.func24, Tryd.ntmps24
 go_wp2_with (first | ((with_reducible refine gate_callee (f := 47) rfl ?_); refine gC (some 5) Tryd.func47 (latheref02_Of.calls a0 t252 t253 t254 t255 false _ A2.out) (fun w7 hb => ?_); clear A2; replace HB := bst hb; (try clear hb)) | ((with_reducible refine gate_dst (N := 3) rfl ?_); refine box_event ?hg (N := 3) ?hd (cs := #[.bool false, .int .u64 0, .int .i64 0, .bool false, .bool false]) (t := 62) ?hr ?_; (case hd => rfl); (case hg => rfl); (case hr => first | (go_simp; done) | (go_simp; rfl)); intro gb257 hg w8 hbox hb; have BK257 := Aside0.mk (hbox); have GW257 := bsz (w := w) hg; have GE257 := bsz (w := w) hg; replace HB := bst hb; clear hb hbox hg; obtain ⟨_, _, _, _, _, _, _, _, _, _⟩ := bx5 BK257.out))
 go_ret
 exact fin_

/-! ### latheref14_in: function 31 -/
def latheref14_in.f (a0 : Int) (a1 : Int) (a2 : Int) : Option (Bool) := if a0 ≥ a1 then (some (decide (a0 ≤ a2))) else (some false)
set_option maxHeartbeats 8000000 in
set_option maxRecDepth 100000 in
theorem latheref14_in.calls (a0 : Int) (a1 : Int) (a2 : Int) (r : Bool) (w : World) (h : latheref14_in.f a0 a1 a2 = some r) :
  Calls Tryd.prog 31 #[.int .i64 a0, .int .i64 a1, .int .i64 a2] w fun e w' => e = .returned (.bool r) ∧ Drawn0 w w' := by
 have H : (if a0 ≥ a1 then (some (decide (a0 ≤ a2))) else (some false)) = some r := h
 clear h
 by_cases c4 : a0 ≥ a1
 ·rw [if_pos c4] at H
  have c4b0 : decide (a1 ≤ a0) = true := decide_eq_true c4
  clear c4
  obtain rfl := Option.some.inj H
  go_enter Tryd.func31, Tryd.ntmps31
  go_wp2
  go_ret
  exact ⟨by first | rfl | (simp; done) | (simp [*]; done), by repeat (first | exact Drawn0.refl _ | apply Drawn0.step)⟩
 rw [if_neg c4] at H
 have c4b0 : decide (a1 ≤ a0) = false := decide_eq_false c4
 clear c4
 obtain rfl := Option.some.inj H
 go_enter Tryd.func31, Tryd.ntmps31
 go_wp2
 go_ret
 exact ⟨by first | rfl | (simp; done) | (simp [*]; done), by repeat (first | exact Drawn0.refl _ | apply Drawn0.step)⟩

/-! ### latheref14_shape: function 85 -/
def latheref14_shape.f (a0_0 : Int) (l0_1 : List Int) (l0_2 : List Int) (l0_3 : List (S26)) (a1 : Int) (a2 : Int) (a3 : Int) : Option (Bool) := if (l0_1.length : Int) = a1 then (if (l0_2.length : Int) = a2 then (some ((l0_3.length : Int) == a3)) else (some false)) else (some false)
set_option maxHeartbeats 8000000 in
set_option maxRecDepth 100000 in
theorem latheref14_shape.calls (a0_0 : Int) (A0_1 : Option Addr) (c0_1 : Nat) (l0_1 : List Int) (A0_2 : Option Addr) (c0_2 : Nat) (l0_2 : List Int) (A0_3 : Option Addr) (c0_3 : Nat) (l0_3 : List (S26)) (a1 : Int) (a2 : Int) (a3 : Int) (r : Bool) (w : World) (hr0_1 : Kd.C (Kd.int .u32) w A0_1 l0_1.length l0_1) (hc0_1 : l0_1.length ≤ c0_1) (hr0_2 : Kd.C (Kd.int .i64) w A0_2 l0_2.length l0_2) (hc0_2 : l0_2.length ≤ c0_2) (hr0_3 : Kd.C k26 w A0_3 l0_3.length l0_3) (hc0_3 : l0_3.length ≤ c0_3) (h : latheref14_shape.f a0_0 l0_1 l0_2 l0_3 a1 a2 a3 = some r) :
  Calls Tryd.prog 85 #[.agg #[.int .i64 a0_0, .slice A0_1 l0_1.length c0_1, .slice A0_2 l0_2.length c0_2, .slice A0_3 l0_3.length c0_3], .int .i64 a1, .int .i64 a2, .int .i64 a3] w fun e w' => e = .returned (.bool r) ∧ Below w.heap.size w w' := by
 have hu26 := Tryd.underlying26
 have HR0_1 := Aside0.mk hr0_1
 have HC0_1 := Aside0.mk hc0_1
 clear hr0_1 hc0_1
 have HR0_2 := Aside0.mk hr0_2
 have HC0_2 := Aside0.mk hc0_2
 clear hr0_2 hc0_2
 have HR0_3 := Aside0.mk hr0_3
 have HC0_3 := Aside0.mk hc0_3
 clear hr0_3 hc0_3
 have HB := Aside0.mk (Below.refl w.heap.size w)
 have H : (if (l0_1.length : Int) = a1 then (if (l0_2.length : Int) = a2 then (some ((l0_3.length : Int) == a3)) else (some false)) else (some false)) = some r := h
 clear h
 by_cases c5 : (l0_1.length : Int) = a1
 rotate_left
 ·rw [if_neg c5] at H
  have c5b0 : ((l0_1.length : Int) == a1) = false := beq_eq_false_iff_ne.mpr c5
  have c5b1 : ((l0_1.length : Int) != a1) = true := bne_iff_ne.mpr c5
  obtain rfl := Option.some.inj H
  go_enter Tryd.func85, Tryd.ntmps85
  go_wp2_with (first | ((with_reducible refine gate_dst (N := 4) rfl ?_); (try (refine gate_guard (by rfl) ?_; dsimp only)); refine box_event ?hg (N := 4) ?hd (cs := #[.int .i64 a0_0, .slice A0_1 l0_1.length c0_1, .slice A0_2 l0_2.length c0_2, .slice A0_3 l0_3.length c0_3]) (t := 26) ?hr ?_; (case hd => rfl); (case hg => rfl); (case hr => first | (go_simp; done) | (go_simp; rfl)); intro gb258 hg w11 hbox hb; have BK258 := Aside0.mk (hbox); have GW258 := bsz (w := w) hg; have GE258 := bsz (w := w) hg; replace HB := bst hb; clear hb hbox hg; obtain ⟨_, _, _, _, _, _, _, _⟩ := bx4 BK258.out))
  go_ret
  exact fin_
 rw [if_pos c5] at H
 have c5b0 : ((l0_1.length : Int) == a1) = true := beq_iff_eq.mpr c5
 have c5b1 : ((l0_1.length : Int) != a1) = false := bne_eq_false_iff_eq.mpr c5
 clear c5
 by_cases c6 : (l0_2.length : Int) = a2
 ·rw [if_pos c6] at H
  have c6b0 : ((l0_2.length : Int) == a2) = true := beq_iff_eq.mpr c6
  have c6b1 : ((l0_2.length : Int) != a2) = false := bne_eq_false_iff_eq.mpr c6
  clear c6
  obtain rfl := Option.some.inj H
  go_enter Tryd.func85, Tryd.ntmps85
  go_wp2_with (first | ((with_reducible refine gate_dst (N := 4) rfl ?_); (try (refine gate_guard (by rfl) ?_; dsimp only)); refine box_event ?hg (N := 4) ?hd (cs := #[.int .i64 a0_0, .slice A0_1 l0_1.length c0_1, .slice A0_2 l0_2.length c0_2, .slice A0_3 l0_3.length c0_3]) (t := 26) ?hr ?_; (case hd => rfl); (case hg => rfl); (case hr => first | (go_simp; done) | (go_simp; rfl)); intro gb258 hg w7 hbox hb; have BK258 := Aside0.mk (hbox); have GW258 := bsz (w := w) hg; have GE258 := bsz (w := w) hg; replace HB := bst hb; clear hb hbox hg; obtain ⟨_, _, _, _, _, _, _, _⟩ := bx4 BK258.out))
  go_ret
  exact fin_
 rw [if_neg c6] at H
 have c6b0 : ((l0_2.length : Int) == a2) = false := beq_eq_false_iff_ne.mpr c6
 have c6b1 : ((l0_2.length : Int) != a2) = true := bne_iff_ne.mpr c6
 obtain rfl := Option.some.inj H
 go_enter Tryd.func85, Tryd.ntmps85
 go_wp2_with (first | ((with_reducible refine gate_dst (N := 4) rfl ?_); (try (refine gate_guard (by rfl) ?_; dsimp only)); refine box_event ?hg (N := 4) ?hd (cs := #[.int .i64 a0_0, .slice A0_1 l0_1.length c0_1, .slice A0_2 l0_2.length c0_2, .slice A0_3 l0_3.length c0_3]) (t := 26) ?hr ?_; (case hd => rfl); (case hg => rfl); (case hr => first | (go_simp; done) | (go_simp; rfl)); intro gb258 hg w9 hbox hb; have BK258 := Aside0.mk (hbox); have GW258 := bsz (w := w) hg; have GE258 := bsz (w := w) hg; replace HB := bst hb; clear hb hbox hg; obtain ⟨_, _, _, _, _, _, _, _⟩ := bx4 BK258.out))
 go_ret
 exact fin_

/-! ### latheref14_rising: function 86 -/
def latheref14_rising.l0 : Nat → List Int → Int → Option (Bool)
 | 0, _, _ => none
 | k + 1, x0, x3 => if x3 < (x0.length : Int) then (if 0 ≤ x3 then ((latheref14_in.f (rd x0 x3) 1 2147483647).bind fun t260 => (if t260 = true then (if x3 > 0 then (if 0 ≤ (wrap64 (x3 - 1)) then (if (wrap64 (x3 - 1)) < (x0.length : Int) then (if (rd x0 (wrap64 (x3 - 1))) ≥ (rd x0 x3) then (some false) else (latheref14_rising.l0 k x0 (wrap64 (x3 + 1)))) else (none)) else (none)) else (latheref14_rising.l0 k x0 (wrap64 (x3 + 1)))) else (some false))) else (none)) else (some (decide ((x0.length : Int) ≥ 1)))
def latheref14_rising.f (k : Nat) (l0 : List Int) : Option (Bool) := latheref14_rising.l0 k l0 0
theorem latheref14_rising.mono_l : ∀ k, (∀ y0 y1, LeO (latheref14_rising.l0 k y0 y1) (latheref14_rising.l0 (k + 1) y0 y1))
 | 0 => fun _ _ r h => by simp [latheref14_rising.l0] at h
 | k + 1 => by
  have ih0 := latheref14_rising.mono_l k
  ·intro y0 y1
   unfold latheref14_rising.l0
   repeat' with_reducible first
    | exact ih0 _ _
    | exact LeO.refl _
    | exact LeO.none _
    | refine LeO.ite ?_ ?_
    | refine LeO.bind ?_ (fun _ => ?_)
theorem latheref14_rising.mono : ∀ a0 k, LeO (latheref14_rising.f k a0) (latheref14_rising.f (k + 1) a0) := by
 intro a0 k
 have ih0 := latheref14_rising.mono_l k
 unfold latheref14_rising.f
 repeat' with_reducible first
  | exact ih0 _ _
  | exact LeO.refl _
  | exact LeO.none _
  | refine LeO.ite ?_ ?_
  | refine LeO.bind ?_ (fun _ => ?_)
set_option maxHeartbeats 8000000 in
set_option maxRecDepth 100000 in
theorem latheref14_rising.calls (k : Nat) (A0 : Option Addr) (c0 : Nat) (l0 : List Int) (r : Bool) (w : World) (hr0 : Kd.C (Kd.int .i64) w A0 l0.length l0) (hc0 : l0.length ≤ c0) (h : latheref14_rising.f k l0 = some r) :
  Calls Tryd.prog 86 #[.slice A0 l0.length c0] w fun e w' => e = .returned (.bool r) ∧ Drawn0 w w' := by
 have HR0 := Aside0.mk hr0
 have HC0 := Aside0.mk hc0
 clear hr0 hc0
 have H : (latheref14_rising.l0 k l0 0) = some r := h
 clear h
 have H' := Aside0.mk H
 clear H
 go_enter Tryd.func86, Tryd.ntmps86
 go_wp2
 repeat (go_quiet (fail); try go_wp2)
 go_loopg [3] k (fun kq v3 w' => ∃ (x3_1 : Int), v3 = .int .i64 x3_1 ∧ Aside0 (latheref14_rising.l0 kq l0 x3_1 = some r) ∧ Aside0 (kq ≤ k) ∧ Drawn0 w w')
 case atStart => exact ⟨(0), id_, H', ⟨Nat.le_refl _⟩, by repeat (first | exact Drawn0.refl _ | apply Drawn0.step)⟩
 case round =>
  clear H'
  obtain ⟨x3_1, rfl, HA, HK1, ⟨m1, rfl⟩⟩ := hrel
  cases gk with
  | zero => exact absurd HA.out (by simp [latheref14_rising.l0])
  | succ k1 =>
   have H := HA.out
   clear HA
   simp only [latheref14_rising.l0] at H
   by_cases c2 : x3_1 < (l0.length : Int)
   rotate_left
   ·rw [if_neg c2] at H
    have c2b0 := decide_eq_false c2
    clear c2
    obtain rfl := Option.some.inj H
    go_wp2
    repeat (go_quiet (fail); try go_wp2)
    go_ret
    exact ⟨by first | rfl | (simp; done) | (simp [*]; done), by repeat (first | exact Drawn0.refl _ | apply Drawn0.step)⟩
   rw [if_pos c2] at H
   have c2b0 := decide_eq_true c2
   clear c2
   by_cases c3 : 0 ≤ x3_1
   rotate_left
   ·rw [if_neg c3] at H
    exact absurd H (by simp)
   rw [if_pos c3] at H
   have c3b0 := decide_eq_true c3
   clear c3
   replace H := Option.bind_eq_some_iff.mp H
   obtain ⟨t260, A40, H⟩ := H
   have A4 := Aside0.mk A40
   clear A40
   by_cases c5 : t260 = true
   rotate_left
   ·replace c5 := Bool.eq_false_iff.mpr c5
    subst c5
    rw [if_neg (show ¬ (false = true) by decide)] at H
    obtain rfl := Option.some.inj H
    have p259 : 0 ≤ (x3_1 : Int) := of_decide_eq_true as_
    have q259 : x3_1 < (l0.length : Int) := of_decide_eq_true as_
    obtain ⟨ad259, e259, hx259_0⟩ := Kd.at_int HR0.out x3_1 p259 q259
    cases e259
    replace p259 := eq_true p259
    replace q259 := eq_true q259
    go_wp2_with (first | (go_at_call 31; (with_reducible refine (latheref14_in.calls (rd l0 x3_1) 1 2147483647 false _ A4.out).mono ?_); clear A4; rintro e w' ⟨rfl, ⟨nd, rfl⟩⟩; (try first | exact ⟨rfl, _, World.drewN_drewN _ _ _⟩ | exact ⟨rfl, _, Eq.trans (World.drewN_drewN _ _ _) (congrArg (World.drewN _) (Nat.add_assoc _ _ _))⟩)))
    repeat (go_quiet (first | (go_at_call 31; (with_reducible refine (latheref14_in.calls (rd l0 x3_1) 1 2147483647 false _ A4.out).mono ?_); rintro e w' ⟨rfl, ⟨nd, rfl⟩⟩; (try first | exact ⟨rfl, _, World.drewN_drewN _ _ _⟩ | exact ⟨rfl, _, Eq.trans (World.drewN_drewN _ _ _) (congrArg (World.drewN _) (Nat.add_assoc _ _ _))⟩))); try go_wp2_with (first | (go_at_call 31; (with_reducible refine (latheref14_in.calls (rd l0 x3_1) 1 2147483647 false _ A4.out).mono ?_); clear A4; rintro e w' ⟨rfl, ⟨nd, rfl⟩⟩; (try first | exact ⟨rfl, _, World.drewN_drewN _ _ _⟩ | exact ⟨rfl, _, Eq.trans (World.drewN_drewN _ _ _) (congrArg (World.drewN _) (Nat.add_assoc _ _ _))⟩))))
    go_ret
    exact ⟨by first | rfl | (simp; done) | (simp [*]; done), by repeat (first | exact Drawn0.refl _ | apply Drawn0.step)⟩
   subst c5
   rw [if_pos rfl] at H
   by_cases c6 : x3_1 > 0
   rotate_left
   ·rw [if_neg c6] at H
    have c6b0 : decide (0 < x3_1) = false := decide_eq_false c6
    clear c6
    have H' := Aside0.mk H
    clear H
    have p259 : 0 ≤ (x3_1 : Int) := of_decide_eq_true as_
    have q259 : x3_1 < (l0.length : Int) := of_decide_eq_true as_
    obtain ⟨ad259, e259, hx259_0⟩ := Kd.at_int HR0.out x3_1 p259 q259
    cases e259
    replace p259 := eq_true p259
    replace q259 := eq_true q259
    go_wp2_with (first | (go_at_call 31; (with_reducible refine (latheref14_in.calls (rd l0 x3_1) 1 2147483647 true _ A4.out).mono ?_); clear A4; rintro e w' ⟨rfl, ⟨nd, rfl⟩⟩; (try first | exact ⟨rfl, _, World.drewN_drewN _ _ _⟩ | exact ⟨rfl, _, Eq.trans (World.drewN_drewN _ _ _) (congrArg (World.drewN _) (Nat.add_assoc _ _ _))⟩)))
    repeat (go_quiet (first | (go_at_call 31; (with_reducible refine (latheref14_in.calls (rd l0 x3_1) 1 2147483647 true _ A4.out).mono ?_); rintro e w' ⟨rfl, ⟨nd, rfl⟩⟩; (try first | exact ⟨rfl, _, World.drewN_drewN _ _ _⟩ | exact ⟨rfl, _, Eq.trans (World.drewN_drewN _ _ _) (congrArg (World.drewN _) (Nat.add_assoc _ _ _))⟩))); try go_wp2_with (first | (go_at_call 31; (with_reducible refine (latheref14_in.calls (rd l0 x3_1) 1 2147483647 true _ A4.out).mono ?_); clear A4; rintro e w' ⟨rfl, ⟨nd, rfl⟩⟩; (try first | exact ⟨rfl, _, World.drewN_drewN _ _ _⟩ | exact ⟨rfl, _, Eq.trans (World.drewN_drewN _ _ _) (congrArg (World.drewN _) (Nat.add_assoc _ _ _))⟩))))
    go_roundg k1
    case measure => have := HK1.out; omega
    case rel => exact ⟨(wrap64 (x3_1 + 1)), id_, H', ⟨by have := HK1.out; omega⟩, by repeat (first | exact Drawn0.refl _ | apply Drawn0.step)⟩
   rw [if_pos c6] at H
   have c6b0 : decide (0 < x3_1) = true := decide_eq_true c6
   clear c6
   obtain ⟨ji7, hji7⟩ : ∃ j_ : Int, (wrap64 (x3_1 - 1)) = j_ := ⟨_, rfl⟩
   first | rw [hji7] at H | simp only [hji7] at H
   have hji7w : (IntKind.i64.wrap (x3_1 - 1)) = ji7 := (i64_w _).trans hji7
   by_cases c8 : 0 ≤ (ji7)
   rotate_left
   ·rw [if_neg c8] at H
    exact absurd H (by simp)
   rw [if_pos c8] at H
   have c8b0 := decide_eq_true c8
   clear c8
   by_cases c9 : (ji7) < (l0.length : Int)
   rotate_left
   ·rw [if_neg c9] at H
    exact absurd H (by simp)
   rw [if_pos c9] at H
   have c9b0 := decide_eq_true c9
   clear c9
   by_cases c10 : (rd l0 (ji7)) ≥ (rd l0 x3_1)
   ·rw [if_pos c10] at H
    have c10b0 : decide ((rd l0 x3_1) ≤ (rd l0 (ji7))) = true := decide_eq_true c10
    clear c10
    obtain rfl := Option.some.inj H
    have p259 : 0 ≤ (x3_1 : Int) := of_decide_eq_true as_
    have q259 : x3_1 < (l0.length : Int) := of_decide_eq_true as_
    obtain ⟨ad259, e259, hx259_0⟩ := Kd.at_int HR0.out x3_1 p259 q259
    cases e259
    replace p259 := eq_true p259
    replace q259 := eq_true q259
    have p261 : 0 ≤ ((ji7) : Int) := of_decide_eq_true as_; have q261 : (ji7) < (l0.length : Int) := of_decide_eq_true as_; obtain ⟨ad261, e261, hx261_0⟩ := Kd.at_int HR0.out (ji7) p261 q261; obtain rfl : ad259 = ad261 := (by injection e261); replace p261 := eq_true p261; replace q261 := eq_true q261; have p262 : 0 ≤ (x3_1 : Int) := of_decide_eq_true as_; have q262 : x3_1 < (l0.length : Int) := of_decide_eq_true as_; obtain ⟨ad262, e262, hx262_0⟩ := Kd.at_int HR0.out x3_1 p262 q262; obtain rfl : ad259 = ad262 := (by injection e262); replace p262 := eq_true p262; replace q262 := eq_true q262
    go_wp2_with (first | (go_at_call 31; (with_reducible refine (latheref14_in.calls (rd l0 x3_1) 1 2147483647 true _ A4.out).mono ?_); clear A4; rintro e w' ⟨rfl, ⟨nd, rfl⟩⟩; (try first | exact ⟨rfl, _, World.drewN_drewN _ _ _⟩ | exact ⟨rfl, _, Eq.trans (World.drewN_drewN _ _ _) (congrArg (World.drewN _) (Nat.add_assoc _ _ _))⟩); have p261 : 0 ≤ ((ji7) : Int) := of_decide_eq_true as_; have q261 : (ji7) < (l0.length : Int) := of_decide_eq_true as_; obtain ⟨ad261, e261, hx261_0⟩ := Kd.at_int HR0.out (ji7) p261 q261; obtain rfl : ad259 = ad261 := (by injection e261); replace p261 := eq_true p261; replace q261 := eq_true q261; have p262 : 0 ≤ (x3_1 : Int) := of_decide_eq_true as_; have q262 : x3_1 < (l0.length : Int) := of_decide_eq_true as_; obtain ⟨ad262, e262, hx262_0⟩ := Kd.at_int HR0.out x3_1 p262 q262; obtain rfl : ad259 = ad262 := (by injection e262); replace p262 := eq_true p262; replace q262 := eq_true q262))
    repeat (go_quiet (first | (go_at_call 31; (with_reducible refine (latheref14_in.calls (rd l0 x3_1) 1 2147483647 true _ A4.out).mono ?_); rintro e w' ⟨rfl, ⟨nd, rfl⟩⟩; (try first | exact ⟨rfl, _, World.drewN_drewN _ _ _⟩ | exact ⟨rfl, _, Eq.trans (World.drewN_drewN _ _ _) (congrArg (World.drewN _) (Nat.add_assoc _ _ _))⟩))); try go_wp2_with (first | (go_at_call 31; (with_reducible refine (latheref14_in.calls (rd l0 x3_1) 1 2147483647 true _ A4.out).mono ?_); clear A4; rintro e w' ⟨rfl, ⟨nd, rfl⟩⟩; (try first | exact ⟨rfl, _, World.drewN_drewN _ _ _⟩ | exact ⟨rfl, _, Eq.trans (World.drewN_drewN _ _ _) (congrArg (World.drewN _) (Nat.add_assoc _ _ _))⟩); have p261 : 0 ≤ ((ji7) : Int) := of_decide_eq_true as_; have q261 : (ji7) < (l0.length : Int) := of_decide_eq_true as_; obtain ⟨ad261, e261, hx261_0⟩ := Kd.at_int HR0.out (ji7) p261 q261; obtain rfl : ad259 = ad261 := (by injection e261); replace p261 := eq_true p261; replace q261 := eq_true q261; have p262 : 0 ≤ (x3_1 : Int) := of_decide_eq_true as_; have q262 : x3_1 < (l0.length : Int) := of_decide_eq_true as_; obtain ⟨ad262, e262, hx262_0⟩ := Kd.at_int HR0.out x3_1 p262 q262; obtain rfl : ad259 = ad262 := (by injection e262); replace p262 := eq_true p262; replace q262 := eq_true q262)))
    go_ret
    exact ⟨by first | rfl | (simp; done) | (simp only [← hji7] <;> (first | rfl | simp)) | (simp [*]; done), by repeat (first | exact Drawn0.refl _ | apply Drawn0.step)⟩
   rw [if_neg c10] at H
   have c10b0 : decide ((rd l0 x3_1) ≤ (rd l0 (ji7))) = false := decide_eq_false c10
   clear c10
   have H' := Aside0.mk H
   clear H
   have p259 : 0 ≤ (x3_1 : Int) := of_decide_eq_true as_
   have q259 : x3_1 < (l0.length : Int) := of_decide_eq_true as_
   obtain ⟨ad259, e259, hx259_0⟩ := Kd.at_int HR0.out x3_1 p259 q259
   cases e259
   replace p259 := eq_true p259
   replace q259 := eq_true q259
   have p261 : 0 ≤ ((ji7) : Int) := of_decide_eq_true as_; have q261 : (ji7) < (l0.length : Int) := of_decide_eq_true as_; obtain ⟨ad261, e261, hx261_0⟩ := Kd.at_int HR0.out (ji7) p261 q261; obtain rfl : ad259 = ad261 := (by injection e261); replace p261 := eq_true p261; replace q261 := eq_true q261; have p262 : 0 ≤ (x3_1 : Int) := of_decide_eq_true as_; have q262 : x3_1 < (l0.length : Int) := of_decide_eq_true as_; obtain ⟨ad262, e262, hx262_0⟩ := Kd.at_int HR0.out x3_1 p262 q262; obtain rfl : ad259 = ad262 := (by injection e262); replace p262 := eq_true p262; replace q262 := eq_true q262
   go_wp2_with (first | (go_at_call 31; (with_reducible refine (latheref14_in.calls (rd l0 x3_1) 1 2147483647 true _ A4.out).mono ?_); clear A4; rintro e w' ⟨rfl, ⟨nd, rfl⟩⟩; (try first | exact ⟨rfl, _, World.drewN_drewN _ _ _⟩ | exact ⟨rfl, _, Eq.trans (World.drewN_drewN _ _ _) (congrArg (World.drewN _) (Nat.add_assoc _ _ _))⟩); have p261 : 0 ≤ ((ji7) : Int) := of_decide_eq_true as_; have q261 : (ji7) < (l0.length : Int) := of_decide_eq_true as_; obtain ⟨ad261, e261, hx261_0⟩ := Kd.at_int HR0.out (ji7) p261 q261; obtain rfl : ad259 = ad261 := (by injection e261); replace p261 := eq_true p261; replace q261 := eq_true q261; have p262 : 0 ≤ (x3_1 : Int) := of_decide_eq_true as_; have q262 : x3_1 < (l0.length : Int) := of_decide_eq_true as_; obtain ⟨ad262, e262, hx262_0⟩ := Kd.at_int HR0.out x3_1 p262 q262; obtain rfl : ad259 = ad262 := (by injection e262); replace p262 := eq_true p262; replace q262 := eq_true q262))
   repeat (go_quiet (first | (go_at_call 31; (with_reducible refine (latheref14_in.calls (rd l0 x3_1) 1 2147483647 true _ A4.out).mono ?_); rintro e w' ⟨rfl, ⟨nd, rfl⟩⟩; (try first | exact ⟨rfl, _, World.drewN_drewN _ _ _⟩ | exact ⟨rfl, _, Eq.trans (World.drewN_drewN _ _ _) (congrArg (World.drewN _) (Nat.add_assoc _ _ _))⟩))); try go_wp2_with (first | (go_at_call 31; (with_reducible refine (latheref14_in.calls (rd l0 x3_1) 1 2147483647 true _ A4.out).mono ?_); clear A4; rintro e w' ⟨rfl, ⟨nd, rfl⟩⟩; (try first | exact ⟨rfl, _, World.drewN_drewN _ _ _⟩ | exact ⟨rfl, _, Eq.trans (World.drewN_drewN _ _ _) (congrArg (World.drewN _) (Nat.add_assoc _ _ _))⟩); have p261 : 0 ≤ ((ji7) : Int) := of_decide_eq_true as_; have q261 : (ji7) < (l0.length : Int) := of_decide_eq_true as_; obtain ⟨ad261, e261, hx261_0⟩ := Kd.at_int HR0.out (ji7) p261 q261; obtain rfl : ad259 = ad261 := (by injection e261); replace p261 := eq_true p261; replace q261 := eq_true q261; have p262 : 0 ≤ (x3_1 : Int) := of_decide_eq_true as_; have q262 : x3_1 < (l0.length : Int) := of_decide_eq_true as_; obtain ⟨ad262, e262, hx262_0⟩ := Kd.at_int HR0.out x3_1 p262 q262; obtain rfl : ad259 = ad262 := (by injection e262); replace p262 := eq_true p262; replace q262 := eq_true q262)))
   go_roundg k1
   case measure => have := HK1.out; omega
   case rel => exact ⟨(wrap64 (x3_1 + 1)), id_, (by first | exact H' | (rw [hji7]; exact H')), ⟨by have := HK1.out; omega⟩, by repeat (first | exact Drawn0.refl _ | apply Drawn0.step)⟩

end Go.Proofs.YtmfladkimmnccaaDoor.PW
