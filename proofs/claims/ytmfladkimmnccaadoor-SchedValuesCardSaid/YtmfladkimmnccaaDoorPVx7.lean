/- The functions of the program that a statement reaches, as plain functions, and that the machine's calls do what these say. No condition. (Printed by a program.) -/
import Derived.Test.YtmfladkimmnccaaDoorPWx0
import Derived.Test.YtmfladkimmnccaaDoorPVx6
import Derived.Test.YtmfladkimmnccaaDoorWal
namespace Go.Proofs.YtmfladkimmnccaaDoor.PW
open Go.RowKit Go.Proofs.YtmfladkimmnccaaDoorW.PrintWords Go.Proofs.YtmfladkimmnccaaDoorW.PrintLast Go.Proofs.YtmfladkimmnccaaDoorW.PrintMore Go.Proofs.YtmfladkimmnccaaDoor.Sht
attribute [local go_sem] max2_int min2_int max_two min_two max_three min_three max_four min_four   -- for this text's walks alone
set_option linter.unusedVariables false
set_option linter.unusedSimpArgs false

/-! ### latheref14_row: function 68 -/
mutual
def latheref14_row.l0 : Nat → Int → Int → List Int → List Int → List (S26) → Option (Bool)
 | 0, _, _, _, _, _ => none
 | k + 1, x3, x264000, x264001, x264002, x264003 => if x3 < (x264001.length : Int) then (if 0 ≤ x3 then ((latheref02_Finite.f (wrap64 (rd x264001 x3))).bind fun t265 => (if t265 = true then (latheref14_row.l0 k (wrap64 (x3 + 1)) x264000 x264001 x264002 x264003) else (some false))) else (none)) else (if x264000 = 1 then ((latheref14_shape.f x264000 x264001 x264002 x264003 1 0 0).bind fun t266 => (some t266)) else (if x264000 = 2 then ((latheref14_shape.f x264000 x264001 x264002 x264003 2 3 0).bind fun t267 => (if t267 = true then (if 0 < (x264002.length : Int) then ((latheref14_in.f (rd x264002 0) 1 1024).bind fun t269 => (if t269 = true then (if 1 < (x264002.length : Int) then ((latheref14_in.f (rd x264002 1) 1 2147483647).bind fun t271 => (if t271 = true then (if 2 < (x264002.length : Int) then ((latheref14_in.f (rd x264002 2) 0 2147483647).bind fun t273 => (some t273)) else (none)) else (some false))) else (none)) else (some false))) else (none)) else (some false))) else (if x264000 = 3 then ((latheref14_shape.f x264000 x264001 x264002 x264003 2 2 0).bind fun t274 => (if t274 = true then (if 1 < (x264001.length : Int) then ((latheref02_Less.f k 0 (wrap64 (rd x264001 1))).bind fun t276 => (if t276 = true then (if 0 < (x264002.length : Int) then ((latheref14_in.f (rd x264002 0) 1 2147483647).bind fun t278 => (if t278 = true then (if 1 < (x264002.length : Int) then ((latheref14_in.f (rd x264002 1) 0 2147483647).bind fun t280 => (some t280)) else (none)) else (some false))) else (none)) else (some false))) else (none)) else (some false))) else (if x264000 = 4 then ((latheref14_shape.f x264000 x264001 x264002 x264003 2 1 0).bind fun t281 => (if t281 = true then (if 0 < (x264002.length : Int) then ((latheref14_in.f (rd x264002 0) 1 2147483647).bind fun t283 => (some t283)) else (none)) else (some false))) else (if x264000 = 5 then ((latheref14_shape.f x264000 x264001 x264002 x264003 (wrap64 ((x264002.length : Int) + 1)) (x264002.length : Int) 0).bind fun t284 => (if t284 = true then ((latheref14_rising.f k x264002).bind fun t285 => (some t285)) else (some false))) else (if x264000 = 6 then ((latheref14_shape.f x264000 x264001 x264002 x264003 0 (x264002.length : Int) (wrap64 ((x264002.length : Int) + 1))).bind fun t286 => (if t286 = true then ((latheref14_rising.f k x264002).bind fun t287 => (some t287)) else (some false))) else (if x264000 = 7 then ((latheref14_shape.f x264000 x264001 x264002 x264003 1 1 0).bind fun t288 => (if t288 = true then (if 0 < (x264002.length : Int) then ((latheref14_in.f (rd x264002 0) 1 2147483647).bind fun t290 => (some t290)) else (none)) else (some false))) else (if x264000 = 8 then (latheref14_row.j1 k x264000 (x264000 == 8) x264000 x264001 x264002 x264003) else (if x264000 = 9 then (latheref14_row.j1 k x264000 (x264000 == 9) x264000 x264001 x264002 x264003) else (if x264000 = 10 then (latheref14_row.j1 k x264000 (x264000 == 10) x264000 x264001 x264002 x264003) else (latheref14_row.j1 k x264000 (x264000 == 11) x264000 x264001 x264002 x264003)))))))))))
def latheref14_row.j1 : Nat → Int → Bool → Int → List Int → List Int → List (S26) → Option (Bool)
 | 0, _, _, _, _, _, _ => none
 | k + 1, x20, x130, x264000, x264001, x264002, x264003 => if x130 = true then ((latheref14_shape.f x264000 x264001 x264002 x264003 0 0 2).bind fun t291 => (some t291)) else (if x20 = 12 then (latheref14_row.j2 k (x20 == 12) x264000 x264001 x264002 x264003) else (latheref14_row.j2 k (x20 == 13) x264000 x264001 x264002 x264003))
def latheref14_row.j2 : Nat → Bool → Int → List Int → List Int → List (S26) → Option (Bool)
 | 0, _, _, _, _, _ => none
 | k + 1, x137, x264000, x264001, x264002, x264003 => if x137 = true then ((latheref14_shape.f x264000 x264001 x264002 x264003 0 1 1).bind fun t292 => (if t292 = true then (if 0 < (x264002.length : Int) then ((latheref14_in.f (rd x264002 0) 0 2147483647).bind fun t294 => (some t294)) else (none)) else (some false))) else (some false)
end
def latheref14_row.f (k : Nat) (a0_0 : Int) (l0_1 : List Int) (l0_2 : List Int) (l0_3 : List (S26)) : Option (Bool) := latheref14_row.l0 k 0 a0_0 l0_1 l0_2 l0_3
theorem latheref14_row.mono_l : ∀ k, (∀ y0 y1 y2 y3 y4, LeO (latheref14_row.l0 k y0 y1 y2 y3 y4) (latheref14_row.l0 (k + 1) y0 y1 y2 y3 y4)) ∧ (∀ y0 y1 y2 y3 y4 y5, LeO (latheref14_row.j1 k y0 y1 y2 y3 y4 y5) (latheref14_row.j1 (k + 1) y0 y1 y2 y3 y4 y5)) ∧ (∀ y0 y1 y2 y3 y4, LeO (latheref14_row.j2 k y0 y1 y2 y3 y4) (latheref14_row.j2 (k + 1) y0 y1 y2 y3 y4))
 | 0 => ⟨fun _ _ _ _ _ r h => by simp [latheref14_row.l0] at h, fun _ _ _ _ _ _ r h => by simp [latheref14_row.j1] at h, fun _ _ _ _ _ r h => by simp [latheref14_row.j2] at h⟩
 | k + 1 => by
  obtain ⟨ih0, ih1, ih2⟩ := latheref14_row.mono_l k
  refine ⟨?_, ?_, ?_⟩ <;> intros <;> (first | unfold latheref14_row.l0 | unfold latheref14_row.j1 | unfold latheref14_row.j2)
  all_goals repeat' with_reducible first
   | exact ih0 _ _ _ _ _
   | exact ih1 _ _ _ _ _ _
   | exact ih2 _ _ _ _ _
   | exact latheref02_Less.mono _ _ _
   | exact latheref14_rising.mono _ _
   | exact LeO.refl _
   | exact LeO.none _
   | refine LeO.ite ?_ ?_
   | refine LeO.bind ?_ (fun _ => ?_)
theorem latheref14_row.mono : ∀ a0 a1 a2 a3 k, LeO (latheref14_row.f k a0 a1 a2 a3) (latheref14_row.f (k + 1) a0 a1 a2 a3) := by
 intro a0 a1 a2 a3 k
 obtain ⟨ih0, ih1, ih2⟩ := latheref14_row.mono_l k
 unfold latheref14_row.f
 repeat' with_reducible first
  | exact ih0 _ _ _ _ _
  | exact ih1 _ _ _ _ _ _
  | exact ih2 _ _ _ _ _
  | exact latheref02_Less.mono _ _ _
  | exact latheref14_rising.mono _ _
  | exact LeO.refl _
  | exact LeO.none _
  | refine LeO.ite ?_ ?_
  | refine LeO.bind ?_ (fun _ => ?_)
set_option maxHeartbeats 8000000 in
set_option maxRecDepth 100000 in
theorem latheref14_row.calls (k : Nat) (a0_0 : Int) (A0_1 : Option Addr) (c0_1 : Nat) (l0_1 : List Int) (A0_2 : Option Addr) (c0_2 : Nat) (l0_2 : List Int) (A0_3 : Option Addr) (c0_3 : Nat) (l0_3 : List (S26)) (r : Bool) (w : World) (hr0_1 : Kd.C (Kd.int .u32) w A0_1 l0_1.length l0_1) (hc0_1 : l0_1.length ≤ c0_1) (hr0_2 : Kd.C (Kd.int .i64) w A0_2 l0_2.length l0_2) (hc0_2 : l0_2.length ≤ c0_2) (hr0_3 : Kd.C k26 w A0_3 l0_3.length l0_3) (hc0_3 : l0_3.length ≤ c0_3) (h : latheref14_row.f k a0_0 l0_1 l0_2 l0_3 = some r) :
  Calls Tryd.prog 68 #[.agg #[.int .i64 a0_0, .slice A0_1 l0_1.length c0_1, .slice A0_2 l0_2.length c0_2, .slice A0_3 l0_3.length c0_3]] w fun e w' => e = .returned (.bool r) ∧ Below w.heap.size w w' := by
 have hu26 := Tryd.underlying26
 have HR0_1 := Aside0.mk hr0_1
 have HC0_1 := Aside0.mk hc0_1
 clear hr0_1 hc0_1
 have HR0_2 := Aside0.mk hr0_2
 have HC0_2 := Aside0.mk hc0_2
 clear hr0_2 hc0_2
 have HR0_3 := Aside0.mk hr0_3
 have HC0_3 := Aside0.mk hc0_3
 clear hr0_3 hc0_3
 have HB := Aside0.mk (Below.refl w.heap.size w)
 have H : (latheref14_row.l0 k 0 a0_0 l0_1 l0_2 l0_3) = some r := h
 clear h
 have H' := Aside0.mk H
 clear H
 go_enter Tryd.func68, Tryd.ntmps68
 go_wp2_with (first | ((with_reducible refine gate_dst (N := 1) rfl ?_); refine box_event ?hg (N := 1) ?hd (cs := #[.int .i64 a0_0, .slice A0_1 l0_1.length c0_1, .slice A0_2 l0_2.length c0_2, .slice A0_3 l0_3.length c0_3]) (t := 26) ?hr ?_; (case hd => rfl); (case hg => rfl); (case hr => first | (go_simp; done) | (go_simp; rfl)); intro gb263 hg w2 hbox hb; have BK263 := Aside0.mk (hbox); have GW263 := bsz (w := w) hg; have GE263 := bsz (w := w) hg; replace HB := bst hb; clear hb hbox hg))
 go_loopg [3] k (fun kq v3 w' => ∃ (x3_1 : Int), v3 = .int .i64 x3_1 ∧ Aside0 (latheref14_row.l0 kq x3_1 a0_0 l0_1 l0_2 l0_3 = some r) ∧ Aside0 (kq ≤ k) ∧ Aside0 (w'.heap[gb263]? = some (.cells #[.int .i64 a0_0, (.slice A0_1 l0_1.length c0_1), (.slice A0_2 l0_2.length c0_2), (.slice A0_3 l0_3.length c0_3)] 26 (0, 0))) ∧ Aside0 (Below w.heap.size w w'))
 case atStart => exact ⟨(0), id_, H', ⟨Nat.le_refl _⟩, ⟨bkk⟩, ⟨hbb⟩⟩
 case round =>
  clear H'
  obtain ⟨x3_1, rfl, HA, HK1, BK263, HB⟩ := hrel
  cases gk with
  | zero => exact absurd HA.out (by simp [latheref14_row.l0])
  | succ k1 =>
   have H := HA.out
   clear HA
   simp only [latheref14_row.l0] at H
   by_cases c3 : x3_1 < (l0_1.length : Int)
   ·rw [if_pos c3] at H
    have c3b0 := decide_eq_true c3
    clear c3
    by_cases c4 : 0 ≤ x3_1
    rotate_left
    ·rw [if_neg c4] at H
     exact absurd H (by simp)
    rw [if_pos c4] at H
    have c4b0 := decide_eq_true c4
    clear c4
    replace H := Option.bind_eq_some_iff.mp H
    obtain ⟨t265, A50, H⟩ := H
    have A5 := Aside0.mk A50
    clear A50
    by_cases c6 : t265 = true
    ·subst c6
     rw [if_pos rfl] at H
     have H' := Aside0.mk H
     clear H
     obtain ⟨_, _, _, _, _, _, _, _⟩ := bx4 BK263.out
     have p264 : 0 ≤ (x3_1 : Int) := of_decide_eq_true as_
     have q264 : x3_1 < (l0_1.length : Int) := of_decide_eq_true as_
     obtain ⟨ad264, e264, hx264_0⟩ := Kd.at_int HR0_1.out x3_1 p264 q264
     cases e264
     replace hx264_0 := upc hx264_0
     replace p264 := eq_true p264
     replace q264 := eq_true q264
     go_wp2_with (first | ((with_reducible refine gate_callee (f := 24) rfl ?_); refine gC (some 17) Tryd.func24 (latheref02_Finite.calls (wrap64 (rd l0_1 x3_1)) true _ A5.out) (fun w8 hb => ?_); clear A5; replace BK263 := bks BK263 hb; replace HB := bst hb; (try clear hb)))
     go_roundg k1
     case measure => have := HK1.out; omega
     case rel => exact ⟨(wrap64 (x3_1 + 1)), id_, H', ⟨by have := HK1.out; omega⟩, ⟨bkk⟩, ⟨hbb⟩⟩
    replace c6 := Bool.eq_false_iff.mpr c6
    subst c6
    rw [if_neg (show ¬ (false = true) by decide)] at H
    obtain rfl := Option.some.inj H
    obtain ⟨_, _, _, _, _, _, _, _⟩ := bx4 BK263.out
    have p264 : 0 ≤ (x3_1 : Int) := of_decide_eq_true as_
    have q264 : x3_1 < (l0_1.length : Int) := of_decide_eq_true as_
    obtain ⟨ad264, e264, hx264_0⟩ := Kd.at_int HR0_1.out x3_1 p264 q264
    cases e264
    replace hx264_0 := upc hx264_0
    replace p264 := eq_true p264
    replace q264 := eq_true q264
    go_wp2_with (first | ((with_reducible refine gate_callee (f := 24) rfl ?_); refine gC (some 17) Tryd.func24 (latheref02_Finite.calls (wrap64 (rd l0_1 x3_1)) false _ A5.out) (fun w10 hb => ?_); clear A5; replace BK263 := bks BK263 hb; replace HB := bst hb; (try clear hb)))
    go_ret
    exact fin_
   rw [if_neg c3] at H
   have c3b0 := decide_eq_false c3
   clear c3
   by_cases c11 : a0_0 = 1
   ·rw [if_pos c11] at H
    have c11b0 : (a0_0 == 1) = true := beq_iff_eq.mpr c11
    have c11b1 : (a0_0 != 1) = false := bne_eq_false_iff_eq.mpr c11
    clear c11
    replace H := Option.bind_eq_some_iff.mp H
    obtain ⟨t266, A120, H⟩ := H
    have A12 := Aside0.mk A120
    clear A120
    obtain rfl := Option.some.inj H
    obtain ⟨_, _, _, _, _, _, _, _⟩ := bx4 BK263.out
    go_wp2_with (first | ((with_reducible refine gate_callee (f := 85) rfl ?_); refine gC (some 24) Tryd.func85 (latheref14_shape.calls a0_0 _ _ l0_1 _ _ l0_2 _ _ l0_3 1 0 0 t266 _ (cb HR0_1) HC0_1.out (cb HR0_2) HC0_2.out (cb HR0_3) HC0_3.out A12.out) (fun w14 hb => ?_); clear A12; replace BK263 := bks BK263 hb; replace HB := bst hb; (try clear hb)))
    go_ret
    exact fin_
   rw [if_neg c11] at H
   have c11b0 : (a0_0 == 1) = false := beq_eq_false_iff_ne.mpr c11
   have c11b1 : (a0_0 != 1) = true := bne_iff_ne.mpr c11
   by_cases c15 : a0_0 = 2
   ·rw [if_pos c15] at H
    have c15b0 : (a0_0 == 2) = true := beq_iff_eq.mpr c15
    have c15b1 : (a0_0 != 2) = false := bne_eq_false_iff_eq.mpr c15
    clear c15
    replace H := Option.bind_eq_some_iff.mp H
    obtain ⟨t267, A160, H⟩ := H
    have A16 := Aside0.mk A160
    clear A160
    by_cases c17 : t267 = true
    rotate_left
    ·replace c17 := Bool.eq_false_iff.mpr c17
     subst c17
     rw [if_neg (show ¬ (false = true) by decide)] at H
     obtain rfl := Option.some.inj H
     obtain ⟨_, _, _, _, _, _, _, _⟩ := bx4 BK263.out
     go_wp2_with (first | ((with_reducible refine gate_callee (f := 85) rfl ?_); refine gC (some 28) Tryd.func85 (latheref14_shape.calls a0_0 _ _ l0_1 _ _ l0_2 _ _ l0_3 2 3 0 false _ (cb HR0_1) HC0_1.out (cb HR0_2) HC0_2.out (cb HR0_3) HC0_3.out A16.out) (fun w36 hb => ?_); clear A16; replace BK263 := bks BK263 hb; replace HB := bst hb; (try clear hb)))
     go_ret
     exact fin_
    subst c17
    rw [if_pos rfl] at H
    by_cases c18 : 0 < (l0_2.length : Int)
    rotate_left
    ·rw [if_neg c18] at H
     exact absurd H (by simp)
    rw [if_pos c18] at H
    have c18b0 := decide_eq_true c18
    have c18b1 : decide (0 < l0_2.length) = true := decide_eq_true (by omega)
    clear c18
    replace H := Option.bind_eq_some_iff.mp H
    obtain ⟨t269, A190, H⟩ := H
    have A19 := Aside0.mk A190
    clear A190
    by_cases c20 : t269 = true
    rotate_left
    ·replace c20 := Bool.eq_false_iff.mpr c20
     subst c20
     rw [if_neg (show ¬ (false = true) by decide)] at H
     obtain rfl := Option.some.inj H
     obtain ⟨_, _, _, _, _, _, _, _⟩ := bx4 BK263.out
     go_wp2_with (first | ((with_reducible refine gate_callee (f := 85) rfl ?_); refine gC (some 28) Tryd.func85 (latheref14_shape.calls a0_0 _ _ l0_1 _ _ l0_2 _ _ l0_3 2 3 0 true _ (cb HR0_1) HC0_1.out (cb HR0_2) HC0_2.out (cb HR0_3) HC0_3.out A16.out) (fun w33 hb => ?_); clear A16; replace BK263 := bks BK263 hb; replace HB := bst hb; (try clear hb); obtain ⟨_, _, _, _, _, _, _, _⟩ := bx4 BK263.out; have p268 : 0 ≤ (0 : Int) := (by omega); have q268 : 0 < (l0_2.length : Int) := of_decide_eq_true as_; obtain ⟨ad268, e268, hx268_0⟩ := Kd.at_int HR0_2.out 0 p268 q268; cases e268; have qi268 : (0 < l0_2.length) = True := eq_true (by omega); (try rw [show ((0 : Int)).toNat = 0 from rfl] at hx268_0); (try rw [Addr.add_zero'] at hx268_0); replace hx268_0 := upc hx268_0; replace p268 := eq_true p268; replace q268 := eq_true q268) | (go_at_call 31; (with_reducible refine (latheref14_in.calls (rd l0_2 0) 1 1024 false _ A19.out).mono ?_); clear A19; rintro e w' ⟨rfl, ⟨nd, rfl⟩⟩))
     go_ret
     exact fin_
    subst c20
    rw [if_pos rfl] at H
    by_cases c21 : 1 < (l0_2.length : Int)
    rotate_left
    ·rw [if_neg c21] at H
     exact absurd H (by simp)
    rw [if_pos c21] at H
    have c21b0 := decide_eq_true c21
    have c21b1 : decide (1 < l0_2.length) = true := decide_eq_true (by omega)
    clear c21
    replace H := Option.bind_eq_some_iff.mp H
    obtain ⟨t271, A220, H⟩ := H
    have A22 := Aside0.mk A220
    clear A220
    by_cases c23 : t271 = true
    rotate_left
    ·replace c23 := Bool.eq_false_iff.mpr c23
     subst c23
     rw [if_neg (show ¬ (false = true) by decide)] at H
     obtain rfl := Option.some.inj H
     obtain ⟨_, _, _, _, _, _, _, _⟩ := bx4 BK263.out
     go_wp2_with (first | ((with_reducible refine gate_callee (f := 85) rfl ?_); refine gC (some 28) Tryd.func85 (latheref14_shape.calls a0_0 _ _ l0_1 _ _ l0_2 _ _ l0_3 2 3 0 true _ (cb HR0_1) HC0_1.out (cb HR0_2) HC0_2.out (cb HR0_3) HC0_3.out A16.out) (fun w30 hb => ?_); clear A16; replace BK263 := bks BK263 hb; replace HB := bst hb; (try clear hb); obtain ⟨_, _, _, _, _, _, _, _⟩ := bx4 BK263.out; have p268 : 0 ≤ (0 : Int) := (by omega); have q268 : 0 < (l0_2.length : Int) := of_decide_eq_true as_; obtain ⟨ad268, e268, hx268_0⟩ := Kd.at_int HR0_2.out 0 p268 q268; cases e268; have qi268 : (0 < l0_2.length) = True := eq_true (by omega); (try rw [show ((0 : Int)).toNat = 0 from rfl] at hx268_0); (try rw [Addr.add_zero'] at hx268_0); replace hx268_0 := upc hx268_0; replace p268 := eq_true p268; replace q268 := eq_true q268) | (go_at_call 31; (with_reducible refine (latheref14_in.calls (rd l0_2 0) 1 1024 true _ A19.out).mono ?_); clear A19; rintro e w' ⟨rfl, ⟨nd, rfl⟩⟩; have p270 : 0 ≤ (1 : Int) := (by omega); have q270 : 1 < (l0_2.length : Int) := of_decide_eq_true as_; obtain ⟨ad270, e270, hx270_0⟩ := Kd.at_int HR0_2.out 1 p270 q270; obtain rfl : ad268 = ad270 := (by injection e270); (try simp only [show (1 : Int).toNat = 1 from rfl, Nat.reduceMul, Nat.reduceEqDiff, Go.Addr.add, ↓reduceIte] at hx270_0); have qi270 : (1 < l0_2.length) = True := eq_true (by omega); (try rw [show ((1 : Int)).toNat = 1 from rfl] at hx270_0); replace hx270_0 := upc hx270_0; replace p270 := eq_true p270; replace q270 := eq_true q270) | (go_at_call 31; (with_reducible refine (latheref14_in.calls (rd l0_2 1) 1 2147483647 false _ A22.out).mono ?_); clear A22; rintro e w' ⟨rfl, ⟨nd, rfl⟩⟩))
     go_ret
     exact fin_
    subst c23
    rw [if_pos rfl] at H
    by_cases c24 : 2 < (l0_2.length : Int)
    rotate_left
    ·rw [if_neg c24] at H
     exact absurd H (by simp)
    rw [if_pos c24] at H
    have c24b0 := decide_eq_true c24
    have c24b1 : decide (2 < l0_2.length) = true := decide_eq_true (by omega)
    clear c24
    replace H := Option.bind_eq_some_iff.mp H
    obtain ⟨t273, A250, H⟩ := H
    have A25 := Aside0.mk A250
    clear A250
    obtain rfl := Option.some.inj H
    obtain ⟨_, _, _, _, _, _, _, _⟩ := bx4 BK263.out
    go_wp2_with (first | ((with_reducible refine gate_callee (f := 85) rfl ?_); refine gC (some 28) Tryd.func85 (latheref14_shape.calls a0_0 _ _ l0_1 _ _ l0_2 _ _ l0_3 2 3 0 true _ (cb HR0_1) HC0_1.out (cb HR0_2) HC0_2.out (cb HR0_3) HC0_3.out A16.out) (fun w27 hb => ?_); clear A16; replace BK263 := bks BK263 hb; replace HB := bst hb; (try clear hb); obtain ⟨_, _, _, _, _, _, _, _⟩ := bx4 BK263.out; have p268 : 0 ≤ (0 : Int) := (by omega); have q268 : 0 < (l0_2.length : Int) := of_decide_eq_true as_; obtain ⟨ad268, e268, hx268_0⟩ := Kd.at_int HR0_2.out 0 p268 q268; cases e268; have qi268 : (0 < l0_2.length) = True := eq_true (by omega); (try rw [show ((0 : Int)).toNat = 0 from rfl] at hx268_0); (try rw [Addr.add_zero'] at hx268_0); replace hx268_0 := upc hx268_0; replace p268 := eq_true p268; replace q268 := eq_true q268) | (go_at_call 31; (with_reducible refine (latheref14_in.calls (rd l0_2 0) 1 1024 true _ A19.out).mono ?_); clear A19; rintro e w' ⟨rfl, ⟨nd, rfl⟩⟩; have p270 : 0 ≤ (1 : Int) := (by omega); have q270 : 1 < (l0_2.length : Int) := of_decide_eq_true as_; obtain ⟨ad270, e270, hx270_0⟩ := Kd.at_int HR0_2.out 1 p270 q270; obtain rfl : ad268 = ad270 := (by injection e270); (try simp only [show (1 : Int).toNat = 1 from rfl, Nat.reduceMul, Nat.reduceEqDiff, Go.Addr.add, ↓reduceIte] at hx270_0); have qi270 : (1 < l0_2.length) = True := eq_true (by omega); (try rw [show ((1 : Int)).toNat = 1 from rfl] at hx270_0); replace hx270_0 := upc hx270_0; replace p270 := eq_true p270; replace q270 := eq_true q270) | (go_at_call 31; (with_reducible refine (latheref14_in.calls (rd l0_2 1) 1 2147483647 true _ A22.out).mono ?_); clear A22; rintro e w' ⟨rfl, ⟨nd, rfl⟩⟩; have p272 : 0 ≤ (2 : Int) := (by omega); have q272 : 2 < (l0_2.length : Int) := of_decide_eq_true as_; obtain ⟨ad272, e272, hx272_0⟩ := Kd.at_int HR0_2.out 2 p272 q272; obtain rfl : ad268 = ad272 := (by injection e272); (try simp only [show (2 : Int).toNat = 2 from rfl, Nat.reduceMul, Nat.reduceEqDiff, Go.Addr.add, ↓reduceIte] at hx272_0); have qi272 : (2 < l0_2.length) = True := eq_true (by omega); (try rw [show ((2 : Int)).toNat = 2 from rfl] at hx272_0); replace hx272_0 := upc hx272_0; replace p272 := eq_true p272; replace q272 := eq_true q272) | (go_at_call 31; (with_reducible refine (latheref14_in.calls (rd l0_2 2) 0 2147483647 t273 _ A25.out).mono ?_); clear A25; rintro e w' ⟨rfl, ⟨nd, rfl⟩⟩))
    go_ret
    exact fin_
   rw [if_neg c15] at H
   have c15b0 : (a0_0 == 2) = false := beq_eq_false_iff_ne.mpr c15
   have c15b1 : (a0_0 != 2) = true := bne_iff_ne.mpr c15
   by_cases c37 : a0_0 = 3
   ·rw [if_pos c37] at H
    have c37b0 : (a0_0 == 3) = true := beq_iff_eq.mpr c37
    have c37b1 : (a0_0 != 3) = false := bne_eq_false_iff_eq.mpr c37
    clear c37
    replace H := Option.bind_eq_some_iff.mp H
    obtain ⟨t274, A380, H⟩ := H
    have A38 := Aside0.mk A380
    clear A380
    by_cases c39 : t274 = true
    rotate_left
    ·replace c39 := Bool.eq_false_iff.mpr c39
     subst c39
     rw [if_neg (show ¬ (false = true) by decide)] at H
     obtain rfl := Option.some.inj H
     obtain ⟨_, _, _, _, _, _, _, _⟩ := bx4 BK263.out
     go_wp2_with (first | ((with_reducible refine gate_callee (f := 85) rfl ?_); refine gC (some 53) Tryd.func85 (latheref14_shape.calls a0_0 _ _ l0_1 _ _ l0_2 _ _ l0_3 2 2 0 false _ (cb HR0_1) HC0_1.out (cb HR0_2) HC0_2.out (cb HR0_3) HC0_3.out A38.out) (fun w63 hb => ?_); clear A38; replace BK263 := bks BK263 hb; replace HB := bst hb; (try clear hb)))
     go_ret
     exact fin_
    subst c39
    rw [if_pos rfl] at H
    by_cases c40 : 1 < (l0_1.length : Int)
    rotate_left
    ·rw [if_neg c40] at H
     exact absurd H (by simp)
    rw [if_pos c40] at H
    have c40b0 := decide_eq_true c40
    have c40b1 : decide (1 < l0_1.length) = true := decide_eq_true (by omega)
    clear c40
    replace H := Option.bind_eq_some_iff.mp H
    obtain ⟨t276, A410, H⟩ := H
    have A41 := Aside0.mk A410
    clear A410
    by_cases c42 : t276 = true
    rotate_left
    ·replace c42 := Bool.eq_false_iff.mpr c42
     subst c42
     rw [if_neg (show ¬ (false = true) by decide)] at H
     obtain rfl := Option.some.inj H
     obtain ⟨_, _, _, _, _, _, _, _⟩ := bx4 BK263.out
     go_wp2_with (first | ((with_reducible refine gate_callee (f := 85) rfl ?_); refine gC (some 53) Tryd.func85 (latheref14_shape.calls a0_0 _ _ l0_1 _ _ l0_2 _ _ l0_3 2 2 0 true _ (cb HR0_1) HC0_1.out (cb HR0_2) HC0_2.out (cb HR0_3) HC0_3.out A38.out) (fun w59 hb => ?_); clear A38; replace BK263 := bks BK263 hb; replace HB := bst hb; (try clear hb); obtain ⟨_, _, _, _, _, _, _, _⟩ := bx4 BK263.out; have p275 : 0 ≤ (1 : Int) := (by omega); have q275 : 1 < (l0_1.length : Int) := of_decide_eq_true as_; obtain ⟨ad275, e275, hx275_0⟩ := Kd.at_int HR0_1.out 1 p275 q275; cases e275; (try simp only [show (1 : Int).toNat = 1 from rfl, Nat.reduceMul, Nat.reduceEqDiff, Go.Addr.add, ↓reduceIte] at hx275_0); have qi275 : (1 < l0_1.length) = True := eq_true (by omega); (try rw [show ((1 : Int)).toNat = 1 from rfl] at hx275_0); replace hx275_0 := upc hx275_0; replace p275 := eq_true p275; replace q275 := eq_true q275) | (go_at_call 20; (with_reducible refine (latheref02_Less.calls k1 0 (wrap64 (rd l0_1 1)) false _ A41.out).mono ?_); clear A41; rintro e w61 ⟨rfl, hb⟩; replace BK263 := bks BK263 hb; replace HB := bst hb; (try clear hb)))
     go_ret
     exact fin_
    subst c42
    rw [if_pos rfl] at H
    by_cases c43 : 0 < (l0_2.length : Int)
    rotate_left
    ·rw [if_neg c43] at H
     exact absurd H (by simp)
    rw [if_pos c43] at H
    have c43b0 := decide_eq_true c43
    have c43b1 : decide (0 < l0_2.length) = true := decide_eq_true (by omega)
    clear c43
    replace H := Option.bind_eq_some_iff.mp H
    obtain ⟨t278, A440, H⟩ := H
    have A44 := Aside0.mk A440
    clear A440
    by_cases c45 : t278 = true
    rotate_left
    ·replace c45 := Bool.eq_false_iff.mpr c45
     subst c45
     rw [if_neg (show ¬ (false = true) by decide)] at H
     obtain rfl := Option.some.inj H
     obtain ⟨_, _, _, _, _, _, _, _⟩ := bx4 BK263.out
     go_wp2_with (first | ((with_reducible refine gate_callee (f := 85) rfl ?_); refine gC (some 53) Tryd.func85 (latheref14_shape.calls a0_0 _ _ l0_1 _ _ l0_2 _ _ l0_3 2 2 0 true _ (cb HR0_1) HC0_1.out (cb HR0_2) HC0_2.out (cb HR0_3) HC0_3.out A38.out) (fun w54 hb => ?_); clear A38; replace BK263 := bks BK263 hb; replace HB := bst hb; (try clear hb); obtain ⟨_, _, _, _, _, _, _, _⟩ := bx4 BK263.out; have p275 : 0 ≤ (1 : Int) := (by omega); have q275 : 1 < (l0_1.length : Int) := of_decide_eq_true as_; obtain ⟨ad275, e275, hx275_0⟩ := Kd.at_int HR0_1.out 1 p275 q275; cases e275; (try simp only [show (1 : Int).toNat = 1 from rfl, Nat.reduceMul, Nat.reduceEqDiff, Go.Addr.add, ↓reduceIte] at hx275_0); have qi275 : (1 < l0_1.length) = True := eq_true (by omega); (try rw [show ((1 : Int)).toNat = 1 from rfl] at hx275_0); replace hx275_0 := upc hx275_0; replace p275 := eq_true p275; replace q275 := eq_true q275) | (go_at_call 20; (with_reducible refine (latheref02_Less.calls k1 0 (wrap64 (rd l0_1 1)) true _ A41.out).mono ?_); clear A41; rintro e w56 ⟨rfl, hb⟩; replace BK263 := bks BK263 hb; replace HB := bst hb; (try clear hb); obtain ⟨_, _, _, _, _, _, _, _⟩ := bx4 BK263.out; have p277 : 0 ≤ (0 : Int) := (by omega); have q277 : 0 < (l0_2.length : Int) := of_decide_eq_true as_; obtain ⟨ad277, e277, hx277_0⟩ := Kd.at_int HR0_2.out 0 p277 q277; cases e277; have qi277 : (0 < l0_2.length) = True := eq_true (by omega); (try rw [show ((0 : Int)).toNat = 0 from rfl] at hx277_0); (try rw [Addr.add_zero'] at hx277_0); replace hx277_0 := upc hx277_0; replace p277 := eq_true p277; replace q277 := eq_true q277) | (go_at_call 31; (with_reducible refine (latheref14_in.calls (rd l0_2 0) 1 2147483647 false _ A44.out).mono ?_); clear A44; rintro e w' ⟨rfl, ⟨nd, rfl⟩⟩))
     go_ret
     exact fin_
    subst c45
    rw [if_pos rfl] at H
    by_cases c46 : 1 < (l0_2.length : Int)
    rotate_left
    ·rw [if_neg c46] at H
     exact absurd H (by simp)
    rw [if_pos c46] at H
    have c46b0 := decide_eq_true c46
    have c46b1 : decide (1 < l0_2.length) = true := decide_eq_true (by omega)
    clear c46
    replace H := Option.bind_eq_some_iff.mp H
    obtain ⟨t280, A470, H⟩ := H
    have A47 := Aside0.mk A470
    clear A470
    obtain rfl := Option.some.inj H
    obtain ⟨_, _, _, _, _, _, _, _⟩ := bx4 BK263.out
    go_wp2_with (first | ((with_reducible refine gate_callee (f := 85) rfl ?_); refine gC (some 53) Tryd.func85 (latheref14_shape.calls a0_0 _ _ l0_1 _ _ l0_2 _ _ l0_3 2 2 0 true _ (cb HR0_1) HC0_1.out (cb HR0_2) HC0_2.out (cb HR0_3) HC0_3.out A38.out) (fun w49 hb => ?_); clear A38; replace BK263 := bks BK263 hb; replace HB := bst hb; (try clear hb); obtain ⟨_, _, _, _, _, _, _, _⟩ := bx4 BK263.out; have p275 : 0 ≤ (1 : Int) := (by omega); have q275 : 1 < (l0_1.length : Int) := of_decide_eq_true as_; obtain ⟨ad275, e275, hx275_0⟩ := Kd.at_int HR0_1.out 1 p275 q275; cases e275; (try simp only [show (1 : Int).toNat = 1 from rfl, Nat.reduceMul, Nat.reduceEqDiff, Go.Addr.add, ↓reduceIte] at hx275_0); have qi275 : (1 < l0_1.length) = True := eq_true (by omega); (try rw [show ((1 : Int)).toNat = 1 from rfl] at hx275_0); replace hx275_0 := upc hx275_0; replace p275 := eq_true p275; replace q275 := eq_true q275) | (go_at_call 20; (with_reducible refine (latheref02_Less.calls k1 0 (wrap64 (rd l0_1 1)) true _ A41.out).mono ?_); clear A41; rintro e w51 ⟨rfl, hb⟩; replace BK263 := bks BK263 hb; replace HB := bst hb; (try clear hb); obtain ⟨_, _, _, _, _, _, _, _⟩ := bx4 BK263.out; have p277 : 0 ≤ (0 : Int) := (by omega); have q277 : 0 < (l0_2.length : Int) := of_decide_eq_true as_; obtain ⟨ad277, e277, hx277_0⟩ := Kd.at_int HR0_2.out 0 p277 q277; cases e277; have qi277 : (0 < l0_2.length) = True := eq_true (by omega); (try rw [show ((0 : Int)).toNat = 0 from rfl] at hx277_0); (try rw [Addr.add_zero'] at hx277_0); replace hx277_0 := upc hx277_0; replace p277 := eq_true p277; replace q277 := eq_true q277) | (go_at_call 31; (with_reducible refine (latheref14_in.calls (rd l0_2 0) 1 2147483647 true _ A44.out).mono ?_); clear A44; rintro e w' ⟨rfl, ⟨nd, rfl⟩⟩; have p279 : 0 ≤ (1 : Int) := (by omega); have q279 : 1 < (l0_2.length : Int) := of_decide_eq_true as_; obtain ⟨ad279, e279, hx279_0⟩ := Kd.at_int HR0_2.out 1 p279 q279; obtain rfl : ad277 = ad279 := (by injection e279); (try simp only [show (1 : Int).toNat = 1 from rfl, Nat.reduceMul, Nat.reduceEqDiff, Go.Addr.add, ↓reduceIte] at hx279_0); have qi279 : (1 < l0_2.length) = True := eq_true (by omega); (try rw [show ((1 : Int)).toNat = 1 from rfl] at hx279_0); replace hx279_0 := upc hx279_0; replace p279 := eq_true p279; replace q279 := eq_true q279) | (go_at_call 31; (with_reducible refine (latheref14_in.calls (rd l0_2 1) 0 2147483647 t280 _ A47.out).mono ?_); clear A47; rintro e w' ⟨rfl, ⟨nd, rfl⟩⟩))
    go_ret
    exact fin_
   rw [if_neg c37] at H
   have c37b0 : (a0_0 == 3) = false := beq_eq_false_iff_ne.mpr c37
   have c37b1 : (a0_0 != 3) = true := bne_iff_ne.mpr c37
   by_cases c64 : a0_0 = 4
   ·rw [if_pos c64] at H
    have c64b0 : (a0_0 == 4) = true := beq_iff_eq.mpr c64
    have c64b1 : (a0_0 != 4) = false := bne_eq_false_iff_eq.mpr c64
    clear c64
    replace H := Option.bind_eq_some_iff.mp H
    obtain ⟨t281, A650, H⟩ := H
    have A65 := Aside0.mk A650
    clear A650
    by_cases c66 : t281 = true
    rotate_left
    ·replace c66 := Bool.eq_false_iff.mpr c66
     subst c66
     rw [if_neg (show ¬ (false = true) by decide)] at H
     obtain rfl := Option.some.inj H
     obtain ⟨_, _, _, _, _, _, _, _⟩ := bx4 BK263.out
     go_wp2_with (first | ((with_reducible refine gate_callee (f := 85) rfl ?_); refine gC (some 79) Tryd.func85 (latheref14_shape.calls a0_0 _ _ l0_1 _ _ l0_2 _ _ l0_3 2 1 0 false _ (cb HR0_1) HC0_1.out (cb HR0_2) HC0_2.out (cb HR0_3) HC0_3.out A65.out) (fun w73 hb => ?_); clear A65; replace BK263 := bks BK263 hb; replace HB := bst hb; (try clear hb)))
     go_ret
     exact fin_
    subst c66
    rw [if_pos rfl] at H
    by_cases c67 : 0 < (l0_2.length : Int)
    rotate_left
    ·rw [if_neg c67] at H
     exact absurd H (by simp)
    rw [if_pos c67] at H
    have c67b0 := decide_eq_true c67
    have c67b1 : decide (0 < l0_2.length) = true := decide_eq_true (by omega)
    clear c67
    replace H := Option.bind_eq_some_iff.mp H
    obtain ⟨t283, A680, H⟩ := H
    have A68 := Aside0.mk A680
    clear A680
    obtain rfl := Option.some.inj H
    obtain ⟨_, _, _, _, _, _, _, _⟩ := bx4 BK263.out
    go_wp2_with (first | ((with_reducible refine gate_callee (f := 85) rfl ?_); refine gC (some 79) Tryd.func85 (latheref14_shape.calls a0_0 _ _ l0_1 _ _ l0_2 _ _ l0_3 2 1 0 true _ (cb HR0_1) HC0_1.out (cb HR0_2) HC0_2.out (cb HR0_3) HC0_3.out A65.out) (fun w70 hb => ?_); clear A65; replace BK263 := bks BK263 hb; replace HB := bst hb; (try clear hb); obtain ⟨_, _, _, _, _, _, _, _⟩ := bx4 BK263.out; have p282 : 0 ≤ (0 : Int) := (by omega); have q282 : 0 < (l0_2.length : Int) := of_decide_eq_true as_; obtain ⟨ad282, e282, hx282_0⟩ := Kd.at_int HR0_2.out 0 p282 q282; cases e282; have qi282 : (0 < l0_2.length) = True := eq_true (by omega); (try rw [show ((0 : Int)).toNat = 0 from rfl] at hx282_0); (try rw [Addr.add_zero'] at hx282_0); replace hx282_0 := upc hx282_0; replace p282 := eq_true p282; replace q282 := eq_true q282) | (go_at_call 31; (with_reducible refine (latheref14_in.calls (rd l0_2 0) 1 2147483647 t283 _ A68.out).mono ?_); clear A68; rintro e w' ⟨rfl, ⟨nd, rfl⟩⟩))
    go_ret
    exact fin_
   rw [if_neg c64] at H
   have c64b0 : (a0_0 == 4) = false := beq_eq_false_iff_ne.mpr c64
   have c64b1 : (a0_0 != 4) = true := bne_iff_ne.mpr c64
   by_cases c74 : a0_0 = 5
   ·rw [if_pos c74] at H
    have c74b0 : (a0_0 == 5) = true := beq_iff_eq.mpr c74
    have c74b1 : (a0_0 != 5) = false := bne_eq_false_iff_eq.mpr c74
    clear c74
    replace H := Option.bind_eq_some_iff.mp H
    obtain ⟨t284, A750, H⟩ := H
    have A75 := Aside0.mk A750
    clear A750
    by_cases c76 : t284 = true
    rotate_left
    ·replace c76 := Bool.eq_false_iff.mpr c76
     subst c76
     rw [if_neg (show ¬ (false = true) by decide)] at H
     obtain rfl := Option.some.inj H
     obtain ⟨_, _, _, _, _, _, _, _⟩ := bx4 BK263.out
     go_wp2_with (first | ((with_reducible refine gate_callee (f := 85) rfl ?_); refine gC (some 97) Tryd.func85 (latheref14_shape.calls a0_0 _ _ l0_1 _ _ l0_2 _ _ l0_3 (wrap64 ((l0_2.length : Int) + 1)) (l0_2.length : Int) 0 false _ (cb HR0_1) HC0_1.out (cb HR0_2) HC0_2.out (cb HR0_3) HC0_3.out A75.out) (fun w82 hb => ?_); clear A75; replace BK263 := bks BK263 hb; replace HB := bst hb; (try clear hb)))
     go_ret
     exact fin_
    subst c76
    rw [if_pos rfl] at H
    replace H := Option.bind_eq_some_iff.mp H
    obtain ⟨t285, A770, H⟩ := H
    have A77 := Aside0.mk A770
    clear A770
    obtain rfl := Option.some.inj H
    obtain ⟨_, _, _, _, _, _, _, _⟩ := bx4 BK263.out
    go_wp2_with (first | ((with_reducible refine gate_callee (f := 85) rfl ?_); refine gC (some 97) Tryd.func85 (latheref14_shape.calls a0_0 _ _ l0_1 _ _ l0_2 _ _ l0_3 (wrap64 ((l0_2.length : Int) + 1)) (l0_2.length : Int) 0 true _ (cb HR0_1) HC0_1.out (cb HR0_2) HC0_2.out (cb HR0_3) HC0_3.out A75.out) (fun w79 hb => ?_); clear A75; replace BK263 := bks BK263 hb; replace HB := bst hb; (try clear hb); obtain ⟨_, _, _, _, _, _, _, _⟩ := bx4 BK263.out) | (go_at_call 86; (with_reducible refine (latheref14_rising.calls k1 _ _ l0_2 t285 _ (cb HR0_2) HC0_2.out A77.out).mono ?_); clear A77; rintro e w' ⟨rfl, ⟨nd, rfl⟩⟩))
    go_ret
    exact fin_
   rw [if_neg c74] at H
   have c74b0 : (a0_0 == 5) = false := beq_eq_false_iff_ne.mpr c74
   have c74b1 : (a0_0 != 5) = true := bne_iff_ne.mpr c74
   by_cases c83 : a0_0 = 6
   ·rw [if_pos c83] at H
    have c83b0 : (a0_0 == 6) = true := beq_iff_eq.mpr c83
    have c83b1 : (a0_0 != 6) = false := bne_eq_false_iff_eq.mpr c83
    clear c83
    replace H := Option.bind_eq_some_iff.mp H
    obtain ⟨t286, A840, H⟩ := H
    have A84 := Aside0.mk A840
    clear A840
    by_cases c85 : t286 = true
    rotate_left
    ·replace c85 := Bool.eq_false_iff.mpr c85
     subst c85
     rw [if_neg (show ¬ (false = true) by decide)] at H
     obtain rfl := Option.some.inj H
     obtain ⟨_, _, _, _, _, _, _, _⟩ := bx4 BK263.out
     go_wp2_with (first | ((with_reducible refine gate_callee (f := 85) rfl ?_); refine gC (some 113) Tryd.func85 (latheref14_shape.calls a0_0 _ _ l0_1 _ _ l0_2 _ _ l0_3 0 (l0_2.length : Int) (wrap64 ((l0_2.length : Int) + 1)) false _ (cb HR0_1) HC0_1.out (cb HR0_2) HC0_2.out (cb HR0_3) HC0_3.out A84.out) (fun w91 hb => ?_); clear A84; replace BK263 := bks BK263 hb; replace HB := bst hb; (try clear hb)))
     go_ret
     exact fin_
    subst c85
    rw [if_pos rfl] at H
    replace H := Option.bind_eq_some_iff.mp H
    obtain ⟨t287, A860, H⟩ := H
    have A86 := Aside0.mk A860
    clear A860
    obtain rfl := Option.some.inj H
    obtain ⟨_, _, _, _, _, _, _, _⟩ := bx4 BK263.out
    go_wp2_with (first | ((with_reducible refine gate_callee (f := 85) rfl ?_); refine gC (some 113) Tryd.func85 (latheref14_shape.calls a0_0 _ _ l0_1 _ _ l0_2 _ _ l0_3 0 (l0_2.length : Int) (wrap64 ((l0_2.length : Int) + 1)) true _ (cb HR0_1) HC0_1.out (cb HR0_2) HC0_2.out (cb HR0_3) HC0_3.out A84.out) (fun w88 hb => ?_); clear A84; replace BK263 := bks BK263 hb; replace HB := bst hb; (try clear hb); obtain ⟨_, _, _, _, _, _, _, _⟩ := bx4 BK263.out) | (go_at_call 86; (with_reducible refine (latheref14_rising.calls k1 _ _ l0_2 t287 _ (cb HR0_2) HC0_2.out A86.out).mono ?_); clear A86; rintro e w' ⟨rfl, ⟨nd, rfl⟩⟩))
    go_ret
    exact fin_
   rw [if_neg c83] at H
   have c83b0 : (a0_0 == 6) = false := beq_eq_false_iff_ne.mpr c83
   have c83b1 : (a0_0 != 6) = true := bne_iff_ne.mpr c83
   by_cases c92 : a0_0 = 7
   ·rw [if_pos c92] at H
    have c92b0 : (a0_0 == 7) = true := beq_iff_eq.mpr c92
    have c92b1 : (a0_0 != 7) = false := bne_eq_false_iff_eq.mpr c92
    clear c92
    replace H := Option.bind_eq_some_iff.mp H
    obtain ⟨t288, A930, H⟩ := H
    have A93 := Aside0.mk A930
    clear A930
    by_cases c94 : t288 = true
    rotate_left
    ·replace c94 := Bool.eq_false_iff.mpr c94
     subst c94
     rw [if_neg (show ¬ (false = true) by decide)] at H
     obtain rfl := Option.some.inj H
     obtain ⟨_, _, _, _, _, _, _, _⟩ := bx4 BK263.out
     go_wp2_with (first | ((with_reducible refine gate_callee (f := 85) rfl ?_); refine gC (some 122) Tryd.func85 (latheref14_shape.calls a0_0 _ _ l0_1 _ _ l0_2 _ _ l0_3 1 1 0 false _ (cb HR0_1) HC0_1.out (cb HR0_2) HC0_2.out (cb HR0_3) HC0_3.out A93.out) (fun w101 hb => ?_); clear A93; replace BK263 := bks BK263 hb; replace HB := bst hb; (try clear hb)))
     go_ret
     exact fin_
    subst c94
    rw [if_pos rfl] at H
    by_cases c95 : 0 < (l0_2.length : Int)
    rotate_left
    ·rw [if_neg c95] at H
     exact absurd H (by simp)
    rw [if_pos c95] at H
    have c95b0 := decide_eq_true c95
    have c95b1 : decide (0 < l0_2.length) = true := decide_eq_true (by omega)
    clear c95
    replace H := Option.bind_eq_some_iff.mp H
    obtain ⟨t290, A960, H⟩ := H
    have A96 := Aside0.mk A960
    clear A960
    obtain rfl := Option.some.inj H
    obtain ⟨_, _, _, _, _, _, _, _⟩ := bx4 BK263.out
    go_wp2_with (first | ((with_reducible refine gate_callee (f := 85) rfl ?_); refine gC (some 122) Tryd.func85 (latheref14_shape.calls a0_0 _ _ l0_1 _ _ l0_2 _ _ l0_3 1 1 0 true _ (cb HR0_1) HC0_1.out (cb HR0_2) HC0_2.out (cb HR0_3) HC0_3.out A93.out) (fun w98 hb => ?_); clear A93; replace BK263 := bks BK263 hb; replace HB := bst hb; (try clear hb); obtain ⟨_, _, _, _, _, _, _, _⟩ := bx4 BK263.out; have p289 : 0 ≤ (0 : Int) := (by omega); have q289 : 0 < (l0_2.length : Int) := of_decide_eq_true as_; obtain ⟨ad289, e289, hx289_0⟩ := Kd.at_int HR0_2.out 0 p289 q289; cases e289; have qi289 : (0 < l0_2.length) = True := eq_true (by omega); (try rw [show ((0 : Int)).toNat = 0 from rfl] at hx289_0); (try rw [Addr.add_zero'] at hx289_0); replace hx289_0 := upc hx289_0; replace p289 := eq_true p289; replace q289 := eq_true q289) | (go_at_call 31; (with_reducible refine (latheref14_in.calls (rd l0_2 0) 1 2147483647 t290 _ A96.out).mono ?_); clear A96; rintro e w' ⟨rfl, ⟨nd, rfl⟩⟩))
    go_ret
    exact fin_
   rw [if_neg c92] at H
   have c92b0 : (a0_0 == 7) = false := beq_eq_false_iff_ne.mpr c92
   have c92b1 : (a0_0 != 7) = true := bne_iff_ne.mpr c92
   have HC102 := Aside0.mk H
   clear H
   obtain ⟨_, _, _, _, _, _, _, _⟩ := bx4 BK263.out
   go_upto_if 130 with (fail)
   go_cut [130] (fun v130 wc => ∃ (kq : Nat) (x130_101 : Bool), v130 = .bool x130_101 ∧ Aside0 (latheref14_row.j1 kq a0_0 x130_101 a0_0 l0_1 l0_2 l0_3 = some r) ∧ Aside0 (kq ≤ k1) ∧ Aside0 (wc.heap[gb263]? = some (.cells #[.int .i64 a0_0, (.slice A0_1 l0_1.length c0_1), (.slice A0_2 l0_2.length c0_2), (.slice A0_3 l0_3.length c0_3)] 26 (0, 0))) ∧ Aside0 (Below w.heap.size w wc))
   case first =>
    have H := HC102.out
    clear HC102
    by_cases c104 : a0_0 = 8
    ·rw [if_pos c104] at H
     have c104b0 : (a0_0 == 8) = true := beq_iff_eq.mpr c104
     have c104b1 : (a0_0 != 8) = false := bne_eq_false_iff_eq.mpr c104
     clear c104
     (first | rw [c104b0] | (simp only [i64_w, i32_w]; rw [c104b0]) | skip)
     have H' := Aside0.mk H
     clear H
     go_wp2
     go_meet
     case rel => exact ⟨_, ((a0_0 == 8)), id_, H', ⟨by have := HK1.out; first | omega | exact Nat.le_refl _⟩, ⟨bkk⟩, ⟨hbb⟩⟩
    rw [if_neg c104] at H
    have c104b0 : (a0_0 == 8) = false := beq_eq_false_iff_ne.mpr c104
    have c104b1 : (a0_0 != 8) = true := bne_iff_ne.mpr c104
    (first | rw [c104b0] | (simp only [i64_w, i32_w]; rw [c104b0]) | skip)
    by_cases c105 : a0_0 = 9
    ·rw [if_pos c105] at H
     have c105b0 : (a0_0 == 9) = true := beq_iff_eq.mpr c105
     have c105b1 : (a0_0 != 9) = false := bne_eq_false_iff_eq.mpr c105
     clear c105
     have H' := Aside0.mk H
     clear H
     go_wp2
     go_meet
     case rel => exact ⟨_, ((a0_0 == 9)), id_, H', ⟨by have := HK1.out; first | omega | exact Nat.le_refl _⟩, ⟨bkk⟩, ⟨hbb⟩⟩
    rw [if_neg c105] at H
    have c105b0 : (a0_0 == 9) = false := beq_eq_false_iff_ne.mpr c105
    have c105b1 : (a0_0 != 9) = true := bne_iff_ne.mpr c105
    by_cases c106 : a0_0 = 10
    ·rw [if_pos c106] at H
     have c106b0 : (a0_0 == 10) = true := beq_iff_eq.mpr c106
     have c106b1 : (a0_0 != 10) = false := bne_eq_false_iff_eq.mpr c106
     clear c106
     have H' := Aside0.mk H
     clear H
     go_wp2
     go_meet
     case rel => exact ⟨_, ((a0_0 == 10)), id_, H', ⟨by have := HK1.out; first | omega | exact Nat.le_refl _⟩, ⟨bkk⟩, ⟨hbb⟩⟩
    rw [if_neg c106] at H
    have c106b0 : (a0_0 == 10) = false := beq_eq_false_iff_ne.mpr c106
    have c106b1 : (a0_0 != 10) = true := bne_iff_ne.mpr c106
    have H' := Aside0.mk H
    clear H
    go_wp2
    go_meet
    case rel => exact ⟨_, ((a0_0 == 11)), id_, H', ⟨by have := HK1.out; first | omega | exact Nat.le_refl _⟩, ⟨bkk⟩, ⟨hbb⟩⟩
   case rest =>
    clear HC102 c3b0 c11 c11b0 c11b1 c15 c15b0 c15b1 c37 c37b0 c37b1 c64 c64b0 c64b1 c74 c74b0 c74b1 c83 c83b0 c83b1 c92 c92b0 c92b1
    obtain ⟨kq, x130_101, rfl, HA, HJ101, BK263, HB⟩ := hcut
    cases kq with
    | zero => exact absurd HA.out (by simp [latheref14_row.j1])
    | succ kj101 =>
     have H := HA.out
     clear HA
     simp only [latheref14_row.j1] at H
     by_cases c107 : x130_101 = true
     ·subst c107
      rw [if_pos rfl] at H
      replace H := Option.bind_eq_some_iff.mp H
      obtain ⟨t291, A1080, H⟩ := H
      have A108 := Aside0.mk A1080
      clear A1080
      obtain rfl := Option.some.inj H
      obtain ⟨_, _, _, _, _, _, _, _⟩ := bx4 BK263.out
      go_wp2_with (first | ((with_reducible refine gate_callee (f := 85) rfl ?_); refine gC (some 136) Tryd.func85 (latheref14_shape.calls a0_0 _ _ l0_1 _ _ l0_2 _ _ l0_3 0 0 2 t291 _ (cb HR0_1) HC0_1.out (cb HR0_2) HC0_2.out (cb HR0_3) HC0_3.out A108.out) (fun w110 hb => ?_); clear A108; replace BK263 := bks BK263 hb; replace HB := bst hb; (try clear hb)))
      go_ret
      exact fin_
     replace c107 := Bool.eq_false_iff.mpr c107
     subst c107
     rw [if_neg (show ¬ (false = true) by decide)] at H
     have HC111 := Aside0.mk H
     clear H
     go_upto_if 137 with (fail)
     go_cut [137] (fun v137 wc => ∃ (kq : Nat) (x137_110 : Bool), v137 = .bool x137_110 ∧ Aside0 (latheref14_row.j2 kq x137_110 a0_0 l0_1 l0_2 l0_3 = some r) ∧ Aside0 (kq ≤ kj101) ∧ Aside0 (wc.heap[gb263]? = some (.cells #[.int .i64 a0_0, (.slice A0_1 l0_1.length c0_1), (.slice A0_2 l0_2.length c0_2), (.slice A0_3 l0_3.length c0_3)] 26 (0, 0))) ∧ Aside0 (Below w.heap.size w wc))
     case first =>
      have H := HC111.out
      clear HC111
      by_cases c112 : a0_0 = 12
      ·rw [if_pos c112] at H
       have c112b0 : (a0_0 == 12) = true := beq_iff_eq.mpr c112
       have c112b1 : (a0_0 != 12) = false := bne_eq_false_iff_eq.mpr c112
       clear c112
       (first | rw [c112b0] | (simp only [i64_w, i32_w]; rw [c112b0]) | skip)
       have H' := Aside0.mk H
       clear H
       go_wp2
       go_meet
       case rel => exact ⟨_, ((a0_0 == 12)), id_, H', ⟨by have := HK1.out; have := HJ101.out; first | omega | exact Nat.le_refl _⟩, ⟨bkk⟩, ⟨hbb⟩⟩
      rw [if_neg c112] at H
      have c112b0 : (a0_0 == 12) = false := beq_eq_false_iff_ne.mpr c112
      have c112b1 : (a0_0 != 12) = true := bne_iff_ne.mpr c112
      (first | rw [c112b0] | (simp only [i64_w, i32_w]; rw [c112b0]) | skip)
      have H' := Aside0.mk H
      clear H
      go_wp2
      go_meet
      case rel => exact ⟨_, ((a0_0 == 13)), id_, H', ⟨by have := HK1.out; have := HJ101.out; first | omega | exact Nat.le_refl _⟩, ⟨bkk⟩, ⟨hbb⟩⟩
     case rest =>
      clear HC111
      obtain ⟨kq, x137_110, rfl, HA, HJ110, BK263, HB⟩ := hcut
      cases kq with
      | zero => exact absurd HA.out (by simp [latheref14_row.j2])
      | succ kj110 =>
       have H := HA.out
       clear HA
       simp only [latheref14_row.j2] at H
       by_cases c113 : x137_110 = true
       rotate_left
       ·replace c113 := Bool.eq_false_iff.mpr c113
        subst c113
        rw [if_neg (show ¬ (false = true) by decide)] at H
        obtain rfl := Option.some.inj H
        go_wp2
        go_ret
        exact fin_
       subst c113
       rw [if_pos rfl] at H
       replace H := Option.bind_eq_some_iff.mp H
       obtain ⟨t292, A1140, H⟩ := H
       have A114 := Aside0.mk A1140
       clear A1140
       by_cases c115 : t292 = true
       rotate_left
       ·replace c115 := Bool.eq_false_iff.mpr c115
        subst c115
        rw [if_neg (show ¬ (false = true) by decide)] at H
        obtain rfl := Option.some.inj H
        obtain ⟨_, _, _, _, _, _, _, _⟩ := bx4 BK263.out
        go_wp2_with (first | ((with_reducible refine gate_callee (f := 85) rfl ?_); refine gC (some 141) Tryd.func85 (latheref14_shape.calls a0_0 _ _ l0_1 _ _ l0_2 _ _ l0_3 0 1 1 false _ (cb HR0_1) HC0_1.out (cb HR0_2) HC0_2.out (cb HR0_3) HC0_3.out A114.out) (fun w122 hb => ?_); clear A114; replace BK263 := bks BK263 hb; replace HB := bst hb; (try clear hb)))
        go_ret
        exact fin_
       subst c115
       rw [if_pos rfl] at H
       by_cases c116 : 0 < (l0_2.length : Int)
       rotate_left
       ·rw [if_neg c116] at H
        exact absurd H (by simp)
       rw [if_pos c116] at H
       have c116b0 := decide_eq_true c116
       have c116b1 : decide (0 < l0_2.length) = true := decide_eq_true (by omega)
       clear c116
       replace H := Option.bind_eq_some_iff.mp H
       obtain ⟨t294, A1170, H⟩ := H
       have A117 := Aside0.mk A1170
       clear A1170
       obtain rfl := Option.some.inj H
       obtain ⟨_, _, _, _, _, _, _, _⟩ := bx4 BK263.out
       go_wp2_with (first | ((with_reducible refine gate_callee (f := 85) rfl ?_); refine gC (some 141) Tryd.func85 (latheref14_shape.calls a0_0 _ _ l0_1 _ _ l0_2 _ _ l0_3 0 1 1 true _ (cb HR0_1) HC0_1.out (cb HR0_2) HC0_2.out (cb HR0_3) HC0_3.out A114.out) (fun w119 hb => ?_); clear A114; replace BK263 := bks BK263 hb; replace HB := bst hb; (try clear hb); obtain ⟨_, _, _, _, _, _, _, _⟩ := bx4 BK263.out; have p293 : 0 ≤ (0 : Int) := (by omega); have q293 : 0 < (l0_2.length : Int) := of_decide_eq_true as_; obtain ⟨ad293, e293, hx293_0⟩ := Kd.at_int HR0_2.out 0 p293 q293; cases e293; have qi293 : (0 < l0_2.length) = True := eq_true (by omega); (try rw [show ((0 : Int)).toNat = 0 from rfl] at hx293_0); (try rw [Addr.add_zero'] at hx293_0); replace hx293_0 := upc hx293_0; replace p293 := eq_true p293; replace q293 := eq_true q293) | (go_at_call 31; (with_reducible refine (latheref14_in.calls (rd l0_2 0) 0 2147483647 t294 _ A117.out).mono ?_); clear A117; rintro e w' ⟨rfl, ⟨nd, rfl⟩⟩))
       go_ret
       exact fin_

end Go.Proofs.YtmfladkimmnccaaDoor.PW
