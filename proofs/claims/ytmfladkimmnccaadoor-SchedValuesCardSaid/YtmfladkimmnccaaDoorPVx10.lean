/- The functions of the program that a statement reaches, as plain functions, and that the machine's calls do what these say. No condition. (Printed by a program.) -/
import Derived.Test.YtmfladkimmnccaaDoorPWx0
import Derived.Test.YtmfladkimmnccaaDoorPVx8
import Derived.Test.YtmfladkimmnccaaDoorWal
namespace Go.Proofs.YtmfladkimmnccaaDoor.PW
open Go.RowKit Go.Proofs.YtmfladkimmnccaaDoorW.PrintWords Go.Proofs.YtmfladkimmnccaaDoorW.PrintLast Go.Proofs.YtmfladkimmnccaaDoorW.PrintMore Go.Proofs.YtmfladkimmnccaaDoor.Sht
attribute [local go_sem] max2_int min2_int max_two min_two max_three min_three max_four min_four   -- for this text's walks alone
set_option linter.unusedVariables false
set_option linter.unusedSimpArgs false

/-! ### latheref02_Round: function 52 -/
mutual
def latheref02_Round.j0 : Nat → Bool → Int → Int → Option (Int)
 | 0, _, _, _ => none
 | k + 1, x0, x7, x9 => if x9 = 16777216 then (latheref02_Round.j1 k x0 (wrap64 (x7 + 1)) 8388608) else (latheref02_Round.j1 k x0 x7 x9)
def latheref02_Round.j1 : Nat → Bool → Int → Int → Option (Int)
 | 0, _, _, _ => none
 | k + 1, x0, x7, x9 => if x9 < 8388608 then ((latheref02_sign.f x0).bind fun t311 => (some (wrap64 (IntKind.u64.wrap (t311 + x9))))) else (if (wrap64 (x7 + 150)) ≥ 255 then ((latheref02_infinite.f x0).bind fun t312 => (some t312)) else ((latheref02_sign.f x0).bind fun t313 => (some (wrap64 (IntKind.u64.wrap ((IntKind.u64.wrap ((IntKind.u64.wrap (t313 + (IntKind.u64.wrap ((IntKind.u64.wrap (wrap64 (x7 + 150))) * 8388608)))) + x9)) - 8388608))))))
end
def latheref02_Round.f (k : Nat) (a0 : Bool) (a1 : Int) (a2 : Int) : Option (Int) := if a1 = 0 then ((latheref02_zero.f a0).bind fun t308 => (some t308)) else ((latheref02_length.f k a1).bind fun t309 => (if (wrap64 ((mx (wrap64 ((wrap64 (a2 + t309)) - 24)) (-149)) - a2)) ≤ 0 then (if 0 ≤ (IntKind.u64.wrap (wrap64 (-(wrap64 ((mx (wrap64 ((wrap64 (a2 + t309)) - 24)) (-149)) - a2))))) then (latheref02_Round.j0 k a0 (mx (wrap64 ((wrap64 (a2 + t309)) - 24)) (-149)) (shl .u64 a1 (IntKind.u64.wrap (wrap64 (-(wrap64 ((mx (wrap64 ((wrap64 (a2 + t309)) - 24)) (-149)) - a2))))))) else (none)) else ((latheref02_halved.f a1 (wrap64 ((mx (wrap64 ((wrap64 (a2 + t309)) - 24)) (-149)) - a2))).bind fun t310 => (latheref02_Round.j0 k a0 (mx (wrap64 ((wrap64 (a2 + t309)) - 24)) (-149)) t310))))
theorem latheref02_Round.mono_l : ∀ k, (∀ y0 y1 y2, LeO (latheref02_Round.j0 k y0 y1 y2) (latheref02_Round.j0 (k + 1) y0 y1 y2)) ∧ (∀ y0 y1 y2, LeO (latheref02_Round.j1 k y0 y1 y2) (latheref02_Round.j1 (k + 1) y0 y1 y2))
 | 0 => ⟨fun _ _ _ r h => by simp [latheref02_Round.j0] at h, fun _ _ _ r h => by simp [latheref02_Round.j1] at h⟩
 | k + 1 => by
  obtain ⟨ih0, ih1⟩ := latheref02_Round.mono_l k
  refine ⟨?_, ?_⟩ <;> intros <;> (first | unfold latheref02_Round.j0 | unfold latheref02_Round.j1)
  all_goals repeat' with_reducible first
   | exact ih0 _ _ _
   | exact ih1 _ _ _
   | exact latheref02_length.mono _ _
   | exact LeO.refl _
   | exact LeO.none _
   | refine LeO.ite ?_ ?_
   | refine LeO.bind ?_ (fun _ => ?_)
theorem latheref02_Round.mono : ∀ a0 a1 a2 k, LeO (latheref02_Round.f k a0 a1 a2) (latheref02_Round.f (k + 1) a0 a1 a2) := by
 intro a0 a1 a2 k
 obtain ⟨ih0, ih1⟩ := latheref02_Round.mono_l k
 unfold latheref02_Round.f
 repeat' with_reducible first
  | exact ih0 _ _ _
  | exact ih1 _ _ _
  | exact latheref02_length.mono _ _
  | exact LeO.refl _
  | exact LeO.none _
  | refine LeO.ite ?_ ?_
  | refine LeO.bind ?_ (fun _ => ?_)
set_option maxHeartbeats 8000000 in
set_option maxRecDepth 100000 in
theorem latheref02_Round.calls (k : Nat) (a0 : Bool) (a1 : Int) (a2 : Int) (r : Int) (w : World) (h : latheref02_Round.f k a0 a1 a2 = some r) :
  Calls Tryd.prog 52 #[.bool a0, .int .u64 a1, .int .i64 a2] w fun e w' => e = .returned (.int .i64 r) ∧ Below w.heap.size w w' := by
 have HB := Aside0.mk (Below.refl w.heap.size w)
 have H : (if a1 = 0 then ((latheref02_zero.f a0).bind fun t308 => (some t308)) else ((latheref02_length.f k a1).bind fun t309 => (if (wrap64 ((mx (wrap64 ((wrap64 (a2 + t309)) - 24)) (-149)) - a2)) ≤ 0 then (if 0 ≤ (IntKind.u64.wrap (wrap64 (-(wrap64 ((mx (wrap64 ((wrap64 (a2 + t309)) - 24)) (-149)) - a2))))) then (latheref02_Round.j0 k a0 (mx (wrap64 ((wrap64 (a2 + t309)) - 24)) (-149)) (shl .u64 a1 (IntKind.u64.wrap (wrap64 (-(wrap64 ((mx (wrap64 ((wrap64 (a2 + t309)) - 24)) (-149)) - a2))))))) else (none)) else ((latheref02_halved.f a1 (wrap64 ((mx (wrap64 ((wrap64 (a2 + t309)) - 24)) (-149)) - a2))).bind fun t310 => (latheref02_Round.j0 k a0 (mx (wrap64 ((wrap64 (a2 + t309)) - 24)) (-149)) t310))))) = some r := h
 clear h
 by_cases c4 : a1 = 0
 ·rw [if_pos c4] at H
  have c4b0 : (a1 == 0) = true := beq_iff_eq.mpr c4
  have c4b1 : (a1 != 0) = false := bne_eq_false_iff_eq.mpr c4
  clear c4
  replace H := Option.bind_eq_some_iff.mp H
  obtain ⟨t308, A50, H⟩ := H
  have A5 := Aside0.mk A50
  clear A50
  obtain rfl := Option.some.inj H
  go_enter Tryd.func52, Tryd.ntmps52
  go_wp2_with (first | ((with_reducible refine gate_callee (f := 51) rfl ?_); refine gL (some 14) Tryd.func51 #[.bool a0] ?_; (with_reducible refine (latheref02_zero.calls a0 t308 _ A5.out).mono ?_); clear A5; rintro e w' ⟨rfl, ⟨nd, rfl⟩⟩; refine ⟨_, rfl, ?_⟩))
  go_ret
  exact fin_
 rw [if_neg c4] at H
 have c4b0 : (a1 == 0) = false := beq_eq_false_iff_ne.mpr c4
 have c4b1 : (a1 != 0) = true := bne_iff_ne.mpr c4
 replace H := Option.bind_eq_some_iff.mp H
 obtain ⟨t309, A60, H⟩ := H
 have A6 := Aside0.mk A60
 clear A60
 obtain ⟨ji7, hji7⟩ : ∃ j_ : Int, (mx (wrap64 ((wrap64 (a2 + t309)) - 24)) (-149)) = j_ := ⟨_, rfl⟩
 first | rw [hji7] at H | simp only [hji7] at H
 have hji7_ : (if (wrap64 ((wrap64 (a2 + t309)) - 24)) < (-149) then (-149) else (wrap64 ((wrap64 (a2 + t309)) - 24))) = ji7 := hji7
 have HC8 := Aside0.mk H
 clear H
 go_enter Tryd.func52, Tryd.ntmps52
 go_upto_if 26 with (first | ((with_reducible refine gate_callee (f := 72) rfl ?_); refine gL (some 17) Tryd.func72 #[.int .u64 a1] ?_; (with_reducible refine (latheref02_length.calls k a1 t309 _ A6.out).mono ?_); clear A6; rintro e w' ⟨rfl, ⟨nd, rfl⟩⟩; refine ⟨_, rfl, ?_⟩))
 go_cut [9] (fun v9 wc => ∃ (kq : Nat) (x9_7 : Int), v9 = .int .u64 x9_7 ∧ Aside0 (latheref02_Round.j0 kq a0 ji7 x9_7 = some r) ∧ Aside0 (kq ≤ k) ∧ Aside0 (Below w.heap.size w wc))
 case first =>
  have H := HC8.out
  clear HC8
  by_cases c9 : (wrap64 ((ji7) - a2)) ≤ 0
  rotate_left
  ·rw [if_neg c9] at H
   have c9b0 := decide_eq_false c9
   clear c9
   (first | rw [c9b0] | (simp only [i64_w, i32_w]; rw [c9b0]) | skip)
   replace H := Option.bind_eq_some_iff.mp H
   obtain ⟨t310, A130, H⟩ := H
   have A13 := Aside0.mk A130
   clear A130
   have H' := Aside0.mk H
   clear H
   go_wp2_with (first | ((with_reducible refine gate_callee (f := 73) rfl ?_); refine goesL_ (some 34) rfl rfl Tryd.func73 (by kernel_rfl) rfl #[.int .u64 a1, .int .i64 (wrap64 ((ji7) - a2))] rfl (by (try simp only [List.map_toArray, List.map_cons, List.map_nil]); first | done | (simp only [hji7]; rfl) | rfl | (simp only [List.length_drop, List.length_take]; rfl)) ?_; (with_reducible refine (latheref02_halved.calls a1 (wrap64 ((ji7) - a2)) t310 _ A13.out).mono ?_); clear A13; rintro e w' ⟨rfl, ⟨nd, rfl⟩⟩; refine ⟨_, rfl, ?_⟩))
   go_meet
   case rel => exact ⟨_, (t310), id_, (by first | exact H' | (rw [hji12]; exact H') | (rw [hji10]; exact H') | (rw [hji7]; exact H')), ⟨by first | omega | exact Nat.le_refl _⟩, ⟨hbb⟩⟩
  rw [if_pos c9] at H
  have c9b0 := decide_eq_true c9
  clear c9
  (first | rw [c9b0] | (simp only [i64_w, i32_w]; rw [c9b0]) | skip)
  obtain ⟨ji10, hji10⟩ : ∃ j_ : Int, (IntKind.u64.wrap (wrap64 (-(wrap64 ((ji7) - a2))))) = j_ := ⟨_, rfl⟩
  first | rw [hji10] at H | simp only [hji10] at H
  by_cases c11 : 0 ≤ (ji10)
  rotate_left
  ·rw [if_neg c11] at H
   exact absurd H (by simp)
  rw [if_pos c11] at H
  have c11b0 := eq_true c11
  have c11b1 : decide (0 ≤ (ji10)) = true := decide_eq_true c11
  clear c11
  obtain ⟨ji12, hji12⟩ : ∃ j_ : Int, (shl .u64 a1 (ji10)) = j_ := ⟨_, rfl⟩
  first | rw [hji12] at H | simp only [hji12] at H
  have hji12_ : (IntKind.u64.wrap (a1 * 2 ^ min (ji10).toNat 64)) = ji12 := hji12
  have hji12z : (ji10) ≤ 64 → (IntKind.u64.wrap (a1 * 2 ^ (ji10).toNat)) = ji12 := shl_small hji12
  have H' := Aside0.mk H
  clear H
  go_wp2
  go_meet
  case rel => exact ⟨_, (ji12), (by first | rfl | (simp; done) | (simp only [← hji12] <;> (first | rfl | simp)) | (simp [*]; done)), (by first | exact H' | (rw [hji12]; exact H') | (rw [hji10]; exact H') | (rw [hji7]; exact H')), ⟨by first | omega | exact Nat.le_refl _⟩, ⟨hbb⟩⟩
 case rest =>
  clear HC8 c4 c4b0 c4b1
  obtain ⟨kq, x9_7, rfl, HA, HJ7, HB⟩ := hcut
  cases kq with
  | zero => exact absurd HA.out (by simp [latheref02_Round.j0])
  | succ kj7 =>
   have H := HA.out
   clear HA
   simp only [latheref02_Round.j0] at H
   have HC14 := Aside0.mk H
   clear H
   go_upto_if 36 with (fail)
   go_cut [7, 9] (fun v7 v9 wc => ∃ (kq : Nat) (x7_13 : Int) (x9_13 : Int), v7 = .int .i64 x7_13 ∧ v9 = .int .u64 x9_13 ∧ Aside0 (latheref02_Round.j1 kq a0 x7_13 x9_13 = some r) ∧ Aside0 (kq ≤ kj7) ∧ Aside0 (Below w.heap.size w wc))
   case first =>
    have H := HC14.out
    clear HC14
    by_cases c15 : x9_7 = 16777216
    ·rw [if_pos c15] at H
     have c15b0 : (x9_7 == 16777216) = true := beq_iff_eq.mpr c15
     have c15b1 : (x9_7 != 16777216) = false := bne_eq_false_iff_eq.mpr c15
     clear c15
     (first | rw [c15b0] | (simp only [i64_w, i32_w]; rw [c15b0]) | skip)
     have H' := Aside0.mk H
     clear H
     go_wp2
     go_meet
     case rel => exact ⟨_, (wrap64 (ji7 + 1)), (8388608), (by first | rfl | (simp; done) | (simp only [← hji7] <;> (first | rfl | simp)) | (simp [*]; done)), id_, H', ⟨by have := HJ7.out; first | omega | exact Nat.le_refl _⟩, ⟨hbb⟩⟩
    rw [if_neg c15] at H
    have c15b0 : (x9_7 == 16777216) = false := beq_eq_false_iff_ne.mpr c15
    have c15b1 : (x9_7 != 16777216) = true := bne_iff_ne.mpr c15
    (first | rw [c15b0] | (simp only [i64_w, i32_w]; rw [c15b0]) | skip)
    have H' := Aside0.mk H
    clear H
    go_wp2
    go_meet
    case rel => exact ⟨_, (ji7), (x9_7), (by first | rfl | (simp; done) | (simp only [← hji7] <;> (first | rfl | simp)) | (simp [*]; done)), id_, H', ⟨by have := HJ7.out; first | omega | exact Nat.le_refl _⟩, ⟨hbb⟩⟩
   case rest =>
    clear HC14
    obtain ⟨kq, x7_13, x9_13, rfl, rfl, HA, HJ13, HB⟩ := hcut
    cases kq with
    | zero => exact absurd HA.out (by simp [latheref02_Round.j1])
    | succ kj13 =>
     have H := HA.out
     clear HA
     simp only [latheref02_Round.j1] at H
     by_cases c16 : x9_13 < 8388608
     ·rw [if_pos c16] at H
      have c16b0 := decide_eq_true c16
      clear c16
      replace H := Option.bind_eq_some_iff.mp H
      obtain ⟨t311, A170, H⟩ := H
      have A17 := Aside0.mk A170
      clear A170
      obtain rfl := Option.some.inj H
      go_wp2_with (first | ((with_reducible refine gate_callee (f := 71) rfl ?_); refine gL (some 42) Tryd.func71 #[.bool a0] ?_; (with_reducible refine (latheref02_sign.calls a0 t311 _ A17.out).mono ?_); clear A17; rintro e w' ⟨rfl, ⟨nd, rfl⟩⟩; refine ⟨_, rfl, ?_⟩))
      go_ret
      exact ⟨by first | rfl | (simp [errW_none, errW_some] <;> rfl) | (simp only [← hji7]; first | rfl | (simp [errW_none, errW_some] <;> rfl)) | (simp [*, errW_none, errW_some] <;> rfl), by repeat (first | (with_reducible first | exact HB.out | apply below_alloc | apply pw_below_drewN | apply below_drew1) | exact HB.out)⟩
     rw [if_neg c16] at H
     have c16b0 := decide_eq_false c16
     clear c16
     by_cases c18 : (wrap64 (x7_13 + 150)) ≥ 255
     ·rw [if_pos c18] at H
      have c18b0 : decide (255 ≤ (wrap64 (x7_13 + 150))) = true := decide_eq_true c18
      clear c18
      replace H := Option.bind_eq_some_iff.mp H
      obtain ⟨t312, A190, H⟩ := H
      have A19 := Aside0.mk A190
      clear A190
      obtain rfl := Option.some.inj H
      go_wp2_with (first | ((with_reducible refine gate_callee (f := 50) rfl ?_); refine gL (some 51) Tryd.func50 #[.bool a0] ?_; (with_reducible refine (latheref02_infinite.calls a0 t312 _ A19.out).mono ?_); clear A19; rintro e w' ⟨rfl, ⟨nd, rfl⟩⟩; refine ⟨_, rfl, ?_⟩))
      go_ret
      exact ⟨by first | rfl | (simp [errW_none, errW_some] <;> rfl) | (simp only [← hji7]; first | rfl | (simp [errW_none, errW_some] <;> rfl)) | (simp [*, errW_none, errW_some] <;> rfl), by repeat (first | (with_reducible first | exact HB.out | apply below_alloc | apply pw_below_drewN | apply below_drew1) | exact HB.out)⟩
     rw [if_neg c18] at H
     have c18b0 : decide (255 ≤ (wrap64 (x7_13 + 150))) = false := decide_eq_false c18
     clear c18
     replace H := Option.bind_eq_some_iff.mp H
     obtain ⟨t313, A200, H⟩ := H
     have A20 := Aside0.mk A200
     clear A200
     obtain rfl := Option.some.inj H
     go_wp2_with (first | ((with_reducible refine gate_callee (f := 71) rfl ?_); refine gL (some 53) Tryd.func71 #[.bool a0] ?_; (with_reducible refine (latheref02_sign.calls a0 t313 _ A20.out).mono ?_); clear A20; rintro e w' ⟨rfl, ⟨nd, rfl⟩⟩; refine ⟨_, rfl, ?_⟩))
     go_ret
     exact ⟨by first | rfl | (simp [errW_none, errW_some] <;> rfl) | (simp only [← hji7]; first | rfl | (simp [errW_none, errW_some] <;> rfl)) | (simp [*, errW_none, errW_some] <;> rfl), by repeat (first | (with_reducible first | exact HB.out | apply below_alloc | apply pw_below_drewN | apply below_drew1) | exact HB.out)⟩

end Go.Proofs.YtmfladkimmnccaaDoor.PW
namespace Go.Proofs.YtmfladkimmnccaaDoor.PW
open Go.RowKit Go.Proofs.YtmfladkimmnccaaDoorW.PrintWords Go.Proofs.YtmfladkimmnccaaDoorW.PrintLast Go.Proofs.YtmfladkimmnccaaDoorW.PrintMore Go.Proofs.YtmfladkimmnccaaDoor.Sht
attribute [local go_sem] max2_int min2_int max_two min_two max_three min_three max_four min_four   -- for this text's walks alone
set_option linter.unusedVariables false
set_option linter.unusedSimpArgs false

/-! ### latheref02_sum: function 53 -/
mutual
def latheref02_sum.j0 : Nat → Int → Int → Bool → Int → Int → Bool → Bool → Bool → Int → Int → Bool → Bool → Option (Int)
 | 0, _, _, _, _, _, _, _, _, _, _, _, _ => none
 | k + 1, x6, x7, x315000, x315001, x315002, x315003, x315004, x316000, x316001, x316002, x316003, x316004 => if x315000 = true then (latheref02_sum.j1 k (wrap64 (-x6)) x7 x316000 x316001 x316002 x316003 x316004) else (latheref02_sum.j1 k x6 x7 x316000 x316001 x316002 x316003 x316004)
def latheref02_sum.j1 : Nat → Int → Int → Bool → Int → Int → Bool → Bool → Option (Int)
 | 0, _, _, _, _, _, _, _ => none
 | k + 1, x6, x7, x316000, x316001, x316002, x316003, x316004 => if x316000 = true then (latheref02_sum.j2 k (wrap64 (x6 - (wrap64 (x316001)))) x7) else (latheref02_sum.j2 k (wrap64 (x6 + (wrap64 (x316001)))) x7)
def latheref02_sum.j2 : Nat → Int → Int → Option (Int)
 | 0, _, _ => none
 | k + 1, x6, x7 => if x6 = 0 then ((latheref02_zero.f false).bind fun t316 => (some t316)) else (if x6 < 0 then ((latheref02_Round.f k true (IntKind.u64.wrap (wrap64 (-x6))) x7).bind fun t317 => (some t317)) else ((latheref02_Round.f k false (IntKind.u64.wrap (x6)) x7).bind fun t318 => (some t318)))
end
def latheref02_sum.f (k : Nat) (a0_0 : Bool) (a0_1 : Int) (a0_2 : Int) (a0_3 : Bool) (a0_4 : Bool) (a1_0 : Bool) (a1_1 : Int) (a1_2 : Int) (a1_3 : Bool) (a1_4 : Bool) : Option (Int) := if (wrap64 (a0_2 - a1_2)) ≤ 36 then (if 0 ≤ (IntKind.u64.wrap (wrap64 (a0_2 - a1_2))) then (latheref02_sum.j0 k (wrap64 (shl .u64 a0_1 (IntKind.u64.wrap (wrap64 (a0_2 - a1_2))))) a1_2 a0_0 a0_1 a0_2 a0_3 a0_4 a1_0 a1_1 a1_2 a1_3 a1_4) else (none)) else (latheref02_sum.j0 k (wrap64 (IntKind.u64.wrap (a0_1 * 68719476736))) (wrap64 (a0_2 - 36)) a0_0 a0_1 a0_2 a0_3 a0_4 a1_0 1 a1_2 a1_3 a1_4)
theorem latheref02_sum.mono_l : ∀ k, (∀ y0 y1 y2 y3 y4 y5 y6 y7 y8 y9 y10 y11, LeO (latheref02_sum.j0 k y0 y1 y2 y3 y4 y5 y6 y7 y8 y9 y10 y11) (latheref02_sum.j0 (k + 1) y0 y1 y2 y3 y4 y5 y6 y7 y8 y9 y10 y11)) ∧ (∀ y0 y1 y2 y3 y4 y5 y6, LeO (latheref02_sum.j1 k y0 y1 y2 y3 y4 y5 y6) (latheref02_sum.j1 (k + 1) y0 y1 y2 y3 y4 y5 y6)) ∧ (∀ y0 y1, LeO (latheref02_sum.j2 k y0 y1) (latheref02_sum.j2 (k + 1) y0 y1))
 | 0 => ⟨fun _ _ _ _ _ _ _ _ _ _ _ _ r h => by simp [latheref02_sum.j0] at h, fun _ _ _ _ _ _ _ r h => by simp [latheref02_sum.j1] at h, fun _ _ r h => by simp [latheref02_sum.j2] at h⟩
 | k + 1 => by
  obtain ⟨ih0, ih1, ih2⟩ := latheref02_sum.mono_l k
  refine ⟨?_, ?_, ?_⟩ <;> intros <;> (first | unfold latheref02_sum.j0 | unfold latheref02_sum.j1 | unfold latheref02_sum.j2)
  all_goals repeat' with_reducible first
   | exact ih0 _ _ _ _ _ _ _ _ _ _ _ _
   | exact ih1 _ _ _ _ _ _ _
   | exact ih2 _ _
   | exact latheref02_Round.mono _ _ _ _
   | exact LeO.refl _
   | exact LeO.none _
   | refine LeO.ite ?_ ?_
   | refine LeO.bind ?_ (fun _ => ?_)
theorem latheref02_sum.mono : ∀ a0 a1 a2 a3 a4 a5 a6 a7 a8 a9 k, LeO (latheref02_sum.f k a0 a1 a2 a3 a4 a5 a6 a7 a8 a9) (latheref02_sum.f (k + 1) a0 a1 a2 a3 a4 a5 a6 a7 a8 a9) := by
 intro a0 a1 a2 a3 a4 a5 a6 a7 a8 a9 k
 obtain ⟨ih0, ih1, ih2⟩ := latheref02_sum.mono_l k
 unfold latheref02_sum.f
 repeat' with_reducible first
  | exact ih0 _ _ _ _ _ _ _ _ _ _ _ _
  | exact ih1 _ _ _ _ _ _ _
  | exact ih2 _ _
  | exact latheref02_Round.mono _ _ _ _
  | exact LeO.refl _
  | exact LeO.none _
  | refine LeO.ite ?_ ?_
  | refine LeO.bind ?_ (fun _ => ?_)
set_option maxHeartbeats 8000000 in
set_option maxRecDepth 100000 in
theorem latheref02_sum.calls (k : Nat) (a0_0 : Bool) (a0_1 : Int) (a0_2 : Int) (a0_3 : Bool) (a0_4 : Bool) (a1_0 : Bool) (a1_1 : Int) (a1_2 : Int) (a1_3 : Bool) (a1_4 : Bool) (r : Int) (w : World) (h : latheref02_sum.f k a0_0 a0_1 a0_2 a0_3 a0_4 a1_0 a1_1 a1_2 a1_3 a1_4 = some r) :
  Calls Tryd.prog 53 #[.agg #[.bool a0_0, .int .u64 a0_1, .int .i64 a0_2, .bool a0_3, .bool a0_4], .agg #[.bool a1_0, .int .u64 a1_1, .int .i64 a1_2, .bool a1_3, .bool a1_4]] w fun e w' => e = .returned (.int .i64 r) ∧ Below w.heap.size w w' := by
 have hu62 := Tryd.underlying62
 have HB := Aside0.mk (Below.refl w.heap.size w)
 have H : (if (wrap64 (a0_2 - a1_2)) ≤ 36 then (if 0 ≤ (IntKind.u64.wrap (wrap64 (a0_2 - a1_2))) then (latheref02_sum.j0 k (wrap64 (shl .u64 a0_1 (IntKind.u64.wrap (wrap64 (a0_2 - a1_2))))) a1_2 a0_0 a0_1 a0_2 a0_3 a0_4 a1_0 a1_1 a1_2 a1_3 a1_4) else (none)) else (latheref02_sum.j0 k (wrap64 (IntKind.u64.wrap (a0_1 * 68719476736))) (wrap64 (a0_2 - 36)) a0_0 a0_1 a0_2 a0_3 a0_4 a1_0 1 a1_2 a1_3 a1_4)) = some r := h
 clear h
 have HC3 := Aside0.mk H
 clear H
 go_enter Tryd.func53, Tryd.ntmps53
 go_upto_if 16 with (first | ((with_reducible refine gate_dst (N := 2) rfl ?_); refine box_event ?hg (N := 2) ?hd (cs := #[.bool a0_0, .int .u64 a0_1, .int .i64 a0_2, .bool a0_3, .bool a0_4]) (t := 62) ?hr ?_; (case hd => rfl); (case hg => rfl); (case hr => first | (go_simp; done) | (go_simp; rfl)); intro gb314 hg w4 hbox hb; have BK314 := Aside0.mk (hbox); have GW314 := bsz (w := w) hg; have GE314 := bsz (w := w) hg; replace HB := bst hb; clear hb hbox hg) | ((with_reducible refine gate_dst (N := 3) rfl ?_); refine box_event ?hg (N := 3) ?hd (cs := #[.bool a1_0, .int .u64 a1_1, .int .i64 a1_2, .bool a1_3, .bool a1_4]) (t := 62) ?hr ?_; (case hd => rfl); (case hg => rfl); (case hr => first | (go_simp; done) | (go_simp; rfl)); intro gb315 hg w5 hbox hb; have BK315 := Aside0.mk (hbox); have GW315 := bsz (w := w) hg; have GE315 := bsz (w := w) hg; have NB314_315 := Aside0.mk ((by rw [hg]; exact Nat.ne_of_lt (blk_lt (g := gb314) (o := .cells #[.bool a0_0, .int .u64 a0_1, .int .i64 a0_2, .bool a0_3, .bool a0_4] 62 (0, 0)) bkk) : gb314 ≠ gb315)); have NB315_314 := Aside0.mk ((by rw [hg]; exact Nat.ne_of_gt (blk_lt (g := gb314) (o := .cells #[.bool a0_0, .int .u64 a0_1, .int .i64 a0_2, .bool a0_3, .bool a0_4] 62 (0, 0)) bkk) : gb315 ≠ gb314)); replace BK314 := bks BK314 hb; replace HB := bst hb; clear hb hbox hg; have hnb6 := NB314_315.out; have hnc6 := NB315_314.out; obtain ⟨_, _, _, _, _, _, _, _, _, _⟩ := bx5 BK314.out; obtain ⟨_, _, _, _, _, _, _, _, _, _⟩ := bx5 BK315.out))
 go_cut [6, 7] (fun v6 v7 wc => ∃ (kq : Nat) (x6_2 : Int) (x7_2 : Int) (x316001_2 : Int), v6 = .int .i64 x6_2 ∧ v7 = .int .i64 x7_2 ∧ Aside0 (latheref02_sum.j0 kq x6_2 x7_2 a0_0 a0_1 a0_2 a0_3 a0_4 a1_0 x316001_2 a1_2 a1_3 a1_4 = some r) ∧ Aside0 (kq ≤ k) ∧ Aside0 (wc.heap[gb314]? = some (.cells #[.bool a0_0, .int .u64 a0_1, .int .i64 a0_2, .bool a0_3, .bool a0_4] 62 (0, 0))) ∧ Aside0 (wc.heap[gb315]? = some (.cells #[.bool a1_0, .int .u64 x316001_2, .int .i64 a1_2, .bool a1_3, .bool a1_4] 62 (0, 0))) ∧ Aside0 (Below w.heap.size w wc))
 case first =>
  have H := HC3.out
  clear HC3
  by_cases c9 : (wrap64 (a0_2 - a1_2)) ≤ 36
  rotate_left
  ·rw [if_neg c9] at H
   have c9b0 := decide_eq_false c9
   clear c9
   (first | rw [c9b0] | (simp only [i64_w, i32_w]; rw [c9b0]) | skip)
   have H' := Aside0.mk H
   clear H
   have hnb15 := NB314_315.out
   have hnc15 := NB315_314.out
   obtain ⟨_, _, _, _, _, _, _, _, _, _⟩ := bx5 BK314.out
   obtain ⟨_, _, _, _, _, _, _, _, _, _⟩ := bx5 BK315.out
   go_wp2
   go_meet
   case rel => exact ⟨_, (wrap64 (IntKind.u64.wrap (a0_1 * 68719476736))), (wrap64 (a0_2 - 36)), (1), id_, id_, (by first | exact H' | (rw [hji12]; exact H') | (rw [hji10]; exact H')), ⟨by first | omega | exact Nat.le_refl _⟩, ⟨bkk⟩, ⟨by (with_reducible repeat (first | refine blk_drewN ?_ _ | refine blk_drew ?_ | refine blk_alloc ?_ _)); refine blk_put (cs := #[.bool a1_0, .int .u64 a1_1, .int .i64 a1_2, .bool a1_3, .bool a1_4]) ?_ 1 _ rfl; (with_reducible repeat (first | refine blk_drewN ?_ _ | refine blk_drew ?_ | refine blk_alloc ?_ _)); exact BK315.out⟩, ⟨hbb⟩⟩
  rw [if_pos c9] at H
  have c9b0 := decide_eq_true c9
  clear c9
  (first | rw [c9b0] | (simp only [i64_w, i32_w]; rw [c9b0]) | skip)
  obtain ⟨ji10, hji10⟩ : ∃ j_ : Int, (IntKind.u64.wrap (wrap64 (a0_2 - a1_2))) = j_ := ⟨_, rfl⟩
  first | rw [hji10] at H | simp only [hji10] at H
  by_cases c11 : 0 ≤ (ji10)
  rotate_left
  ·rw [if_neg c11] at H
   exact absurd H (by simp)
  rw [if_pos c11] at H
  have c11b0 := eq_true c11
  have c11b1 : decide (0 ≤ (ji10)) = true := decide_eq_true c11
  clear c11
  obtain ⟨ji12, hji12⟩ : ∃ j_ : Int, (shl .u64 a0_1 (ji10)) = j_ := ⟨_, rfl⟩
  first | rw [hji12] at H | simp only [hji12] at H
  have hji12_ : (IntKind.u64.wrap (a0_1 * 2 ^ min (ji10).toNat 64)) = ji12 := hji12
  have hji12z : (ji10) ≤ 64 → (IntKind.u64.wrap (a0_1 * 2 ^ (ji10).toNat)) = ji12 := shl_small hji12
  have H' := Aside0.mk H
  clear H
  have hnb13 := NB314_315.out
  have hnc13 := NB315_314.out
  obtain ⟨_, _, _, _, _, _, _, _, _, _⟩ := bx5 BK314.out
  go_wp2
  go_meet
  case rel => exact ⟨_, (wrap64 (ji12)), (a1_2), (a1_1), (by first | rfl | (simp; done) | (simp only [← hji12] <;> (first | rfl | simp)) | (simp [*]; done)), id_, (by first | exact H' | (rw [hji12]; exact H') | (rw [hji10]; exact H')), ⟨by first | omega | exact Nat.le_refl _⟩, ⟨bkk⟩, ⟨bkk⟩, ⟨hbb⟩⟩
 case rest =>
  clear HC3
  obtain ⟨kq, x6_2, x7_2, x316001_2, rfl, rfl, HA, HJ2, BK314, BK315, HB⟩ := hcut
  cases kq with
  | zero => exact absurd HA.out (by simp [latheref02_sum.j0])
  | succ kj2 =>
   have H := HA.out
   clear HA
   simp only [latheref02_sum.j0] at H
   have HC18 := Aside0.mk H
   clear H
   have hnb19 := NB314_315.out
   have hnc19 := NB315_314.out
   obtain ⟨_, _, _, _, _, _, _, _, _, _⟩ := bx5 BK314.out
   go_upto_if 32 with (fail)
   go_cut [6] (fun v6 wc => ∃ (kq : Nat) (x6_17 : Int), v6 = .int .i64 x6_17 ∧ Aside0 (latheref02_sum.j1 kq x6_17 x7_2 a1_0 x316001_2 a1_2 a1_3 a1_4 = some r) ∧ Aside0 (kq ≤ kj2) ∧ Aside0 (wc.heap[gb314]? = some (.cells #[.bool a0_0, .int .u64 a0_1, .int .i64 a0_2, .bool a0_3, .bool a0_4] 62 (0, 0))) ∧ Aside0 (wc.heap[gb315]? = some (.cells #[.bool a1_0, .int .u64 x316001_2, .int .i64 a1_2, .bool a1_3, .bool a1_4] 62 (0, 0))) ∧ Aside0 (Below w.heap.size w wc))
   case first =>
    have H := HC18.out
    clear HC18
    by_cases c21 : a0_0 = true
    ·subst c21
     rw [if_pos rfl] at H
     have H' := Aside0.mk H
     clear H
     go_wp2
     go_meet
     case rel => exact ⟨_, (wrap64 (-x6_2)), id_, H', ⟨by have := HJ2.out; first | omega | exact Nat.le_refl _⟩, ⟨bkk⟩, ⟨bkk⟩, ⟨hbb⟩⟩
    replace c21 := Bool.eq_false_iff.mpr c21
    subst c21
    rw [if_neg (show ¬ (false = true) by decide)] at H
    have H' := Aside0.mk H
    clear H
    go_wp2
    go_meet
    case rel => exact ⟨_, (x6_2), id_, H', ⟨by have := HJ2.out; first | omega | exact Nat.le_refl _⟩, ⟨bkk⟩, ⟨bkk⟩, ⟨hbb⟩⟩
   case rest =>
    clear HC18
    obtain ⟨kq, x6_17, rfl, HA, HJ17, BK314, BK315, HB⟩ := hcut
    cases kq with
    | zero => exact absurd HA.out (by simp [latheref02_sum.j1])
    | succ kj17 =>
     have H := HA.out
     clear HA
     simp only [latheref02_sum.j1] at H
     have HC22 := Aside0.mk H
     clear H
     have hnb23 := NB315_314.out
     have hnc23 := NB314_315.out
     obtain ⟨_, _, _, _, _, _, _, _, _, _⟩ := bx5 BK315.out
     go_upto_if 36 with (fail)
     go_cut [6] (fun v6 wc => ∃ (kq : Nat) (x6_21 : Int), v6 = .int .i64 x6_21 ∧ Aside0 (latheref02_sum.j2 kq x6_21 x7_2 = some r) ∧ Aside0 (kq ≤ kj17) ∧ Aside0 (wc.heap[gb314]? = some (.cells #[.bool a0_0, .int .u64 a0_1, .int .i64 a0_2, .bool a0_3, .bool a0_4] 62 (0, 0))) ∧ Aside0 (wc.heap[gb315]? = some (.cells #[.bool a1_0, .int .u64 x316001_2, .int .i64 a1_2, .bool a1_3, .bool a1_4] 62 (0, 0))) ∧ Aside0 (Below w.heap.size w wc))
     case first =>
      have H := HC22.out
      clear HC22
      by_cases c25 : a1_0 = true
      ·subst c25
       rw [if_pos rfl] at H
       have H' := Aside0.mk H
       clear H
       have hnb26 := NB315_314.out
       have hnc26 := NB314_315.out
       obtain ⟨_, _, _, _, _, _, _, _, _, _⟩ := bx5 BK315.out
       go_wp2
       go_meet
       case rel => exact ⟨_, (wrap64 (x6_17 - (wrap64 (x316001_2)))), id_, H', ⟨by have := HJ2.out; have := HJ17.out; first | omega | exact Nat.le_refl _⟩, ⟨bkk⟩, ⟨bkk⟩, ⟨hbb⟩⟩
      replace c25 := Bool.eq_false_iff.mpr c25
      subst c25
      rw [if_neg (show ¬ (false = true) by decide)] at H
      have H' := Aside0.mk H
      clear H
      have hnb28 := NB315_314.out
      have hnc28 := NB314_315.out
      obtain ⟨_, _, _, _, _, _, _, _, _, _⟩ := bx5 BK315.out
      go_wp2
      go_meet
      case rel => exact ⟨_, (wrap64 (x6_17 + (wrap64 (x316001_2)))), id_, H', ⟨by have := HJ2.out; have := HJ17.out; first | omega | exact Nat.le_refl _⟩, ⟨bkk⟩, ⟨bkk⟩, ⟨hbb⟩⟩
     case rest =>
      clear HC22
      obtain ⟨kq, x6_21, rfl, HA, HJ21, BK314, BK315, HB⟩ := hcut
      cases kq with
      | zero => exact absurd HA.out (by simp [latheref02_sum.j2])
      | succ kj21 =>
       have H := HA.out
       clear HA
       simp only [latheref02_sum.j2] at H
       by_cases c30 : x6_21 = 0
       ·rw [if_pos c30] at H
        have c30b0 : (x6_21 == 0) = true := beq_iff_eq.mpr c30
        have c30b1 : (x6_21 != 0) = false := bne_eq_false_iff_eq.mpr c30
        clear c30
        replace H := Option.bind_eq_some_iff.mp H
        obtain ⟨t316, A310, H⟩ := H
        have A31 := Aside0.mk A310
        clear A310
        obtain rfl := Option.some.inj H
        go_wp2_with (first | ((with_reducible refine gate_callee (f := 51) rfl ?_); refine gL (some 49) Tryd.func51 #[.bool false] ?_; (with_reducible refine (latheref02_zero.calls false t316 _ A31.out).mono ?_); clear A31; rintro e w' ⟨rfl, ⟨nd, rfl⟩⟩; refine ⟨_, rfl, ?_⟩))
        go_ret
        exact fin_
       rw [if_neg c30] at H
       have c30b0 : (x6_21 == 0) = false := beq_eq_false_iff_ne.mpr c30
       have c30b1 : (x6_21 != 0) = true := bne_iff_ne.mpr c30
       by_cases c32 : x6_21 < 0
       ·rw [if_pos c32] at H
        have c32b0 := decide_eq_true c32
        clear c32
        replace H := Option.bind_eq_some_iff.mp H
        obtain ⟨t317, A330, H⟩ := H
        have A33 := Aside0.mk A330
        clear A330
        obtain rfl := Option.some.inj H
        go_wp2_with (first | ((with_reducible refine gate_callee (f := 52) rfl ?_); refine gC (some 56) Tryd.func52 (latheref02_Round.calls kj21 true (IntKind.u64.wrap (wrap64 (-x6_21))) x7_2 t317 _ A33.out) (fun w34 hb => ?_); clear A33; replace BK314 := bks BK314 hb; replace BK315 := bks BK315 hb; replace HB := bst hb; (try clear hb)))
        go_ret
        exact fin_
       rw [if_neg c32] at H
       have c32b0 := decide_eq_false c32
       clear c32
       replace H := Option.bind_eq_some_iff.mp H
       obtain ⟨t318, A350, H⟩ := H
       have A35 := Aside0.mk A350
       clear A350
       obtain rfl := Option.some.inj H
       go_wp2_with (first | ((with_reducible refine gate_callee (f := 52) rfl ?_); refine gC (some 60) Tryd.func52 (latheref02_Round.calls kj21 false (IntKind.u64.wrap (x6_21)) x7_2 t318 _ A35.out) (fun w36 hb => ?_); clear A35; replace BK314 := bks BK314 hb; replace BK315 := bks BK315 hb; replace HB := bst hb; (try clear hb)))
       go_ret
       exact fin_

end Go.Proofs.YtmfladkimmnccaaDoor.PW
