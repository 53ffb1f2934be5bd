/- The functions of the program that a statement reaches, as plain functions, and that the machine's calls do what these say. No condition. (Printed by a program.) -/
import Derived.Test.YtcegmbplgghjnaaPFx0
import Derived.Test.YtcegmbplgghjnaaPFx2
import Derived.Test.YtcegmbplgghjnaaPFx4
import Derived.Test.YtcegmbplgghjnaaPFx11
import Derived.Test.YtcegmbplgghjnaaPFx14
namespace Go.Proofs.Ytcegmbplgghjnaa.PF
open Go.RowKit Go.Proofs.YtcegmbplgghjnaaW.PrintWords Go.Proofs.YtcegmbplgghjnaaW.PrintLast Go.Proofs.YtcegmbplgghjnaaW.PrintMore
attribute [local go_sem] max2_int min2_int max_two min_two max_three min_three max_four min_four   -- for this text's walks alone
set_option linter.unusedVariables false
set_option linter.unusedSimpArgs false

/-! ### lathelaw02_FloatKeeps: function 16 -/
mutual
def lathelaw02_FloatKeeps.j0 : Nat → Int → Int → Int → Bool → Option (Bool)
  | 0, _, _, _, _ => none
  | k + 1, x0, x1, x2, x14 => if x14 = true then ((lathelaw02_works.f).bind fun t391 => (some t391)) else ((float_Less.f x1 x0).bind fun t392 => (if t392 = true then (lathelaw02_FloatKeeps.j1 k x1 x0 x2) else (lathelaw02_FloatKeeps.j1 k x0 x1 x2)))
def lathelaw02_FloatKeeps.j1 : Nat → Int → Int → Int → Option (Bool)
  | 0, _, _, _ => none
  | k + 1, x0, x1, x2 => (float_Add.f x0 x2).bind fun t393 => ((float_Add.f x1 x2).bind fun t394 => ((lathelaw02_nan.f t393).bind fun t395 => (if t395 = true then (lathelaw02_FloatKeeps.j2 k x0 x1 x2 false) else ((lathelaw02_nan.f t394).bind fun t396 => (if t396 = true then (lathelaw02_FloatKeeps.j2 k x0 x1 x2 false) else ((lathelaw02_least.f t393 t394).bind fun t397 => (lathelaw02_FloatKeeps.j2 k x0 x1 x2 (!t397))))))))
def lathelaw02_FloatKeeps.j2 : Nat → Int → Int → Int → Bool → Option (Bool)
  | 0, _, _, _, _ => none
  | k + 1, x0, x1, x2, x40 => if x40 = true then (some false) else ((float_Abs.f x2).bind fun t398 => ((float_Mul.f x0 t398).bind fun t399 => ((float_Mul.f x1 t398).bind fun t400 => ((float_Less.f 0 t398).bind fun t401 => (if t401 = true then ((lathelaw02_nan.f t399).bind fun t402 => (if t402 = true then (lathelaw02_FloatKeeps.j3 k x0 x1 false) else ((lathelaw02_nan.f t400).bind fun t403 => (if t403 = true then (lathelaw02_FloatKeeps.j3 k x0 x1 false) else ((lathelaw02_least.f t399 t400).bind fun t404 => (lathelaw02_FloatKeeps.j3 k x0 x1 (!t404))))))) else (lathelaw02_FloatKeeps.j3 k x0 x1 false))))))
def lathelaw02_FloatKeeps.j3 : Nat → Int → Int → Bool → Option (Bool)
  | 0, _, _, _ => none
  | k + 1, x0, x1, x66 => if x66 = true then (some false) else ((float_Sqrt.f x0).bind fun t405 => ((float_Sqrt.f x1).bind fun t406 => ((lathelaw02_nan.f t405).bind fun t407 => (if t407 = true then ((lathelaw02_works.f).bind fun t408 => (some t408)) else ((lathelaw02_nan.f t406).bind fun t409 => (if t409 = true then ((lathelaw02_works.f).bind fun t410 => (some t410)) else ((lathelaw02_least.f t405 t406).bind fun t411 => (if t411 = true then ((lathelaw02_works.f).bind fun t412 => (some t412)) else (some false)))))))))
end
def lathelaw02_FloatKeeps.f (k : Nat) (a0 : Int) (a1 : Int) (a2 : Int) : Option (Bool) := (lathelaw02_nan.f a0).bind fun t389 => (if t389 = true then (lathelaw02_FloatKeeps.j0 k a0 a1 a2 true) else ((lathelaw02_nan.f a1).bind fun t390 => (lathelaw02_FloatKeeps.j0 k a0 a1 a2 t390)))
theorem lathelaw02_FloatKeeps.mono_l : ∀ k, (∀ y0 y1 y2 y3, LeO (lathelaw02_FloatKeeps.j0 k y0 y1 y2 y3) (lathelaw02_FloatKeeps.j0 (k + 1) y0 y1 y2 y3)) ∧ (∀ y0 y1 y2, LeO (lathelaw02_FloatKeeps.j1 k y0 y1 y2) (lathelaw02_FloatKeeps.j1 (k + 1) y0 y1 y2)) ∧ (∀ y0 y1 y2 y3, LeO (lathelaw02_FloatKeeps.j2 k y0 y1 y2 y3) (lathelaw02_FloatKeeps.j2 (k + 1) y0 y1 y2 y3)) ∧ (∀ y0 y1 y2, LeO (lathelaw02_FloatKeeps.j3 k y0 y1 y2) (lathelaw02_FloatKeeps.j3 (k + 1) y0 y1 y2))
  | 0 => ⟨fun _ _ _ _ r h => by simp [lathelaw02_FloatKeeps.j0] at h, fun _ _ _ r h => by simp [lathelaw02_FloatKeeps.j1] at h, fun _ _ _ _ r h => by simp [lathelaw02_FloatKeeps.j2] at h, fun _ _ _ r h => by simp [lathelaw02_FloatKeeps.j3] at h⟩
  | k + 1 => by
    obtain ⟨ih0, ih1, ih2, ih3⟩ := lathelaw02_FloatKeeps.mono_l k
    refine ⟨?_, ?_, ?_, ?_⟩
    · intro y0 y1 y2 y3
      unfold lathelaw02_FloatKeeps.j0
      repeat' first
      | (with_reducible exact ih0 _ _ _ _)
      | (with_reducible exact ih1 _ _ _)
      | (with_reducible exact ih2 _ _ _ _)
      | (with_reducible exact ih3 _ _ _)
      | (with_reducible exact LeO.refl _)
      | (with_reducible exact LeO.none _)
      | (with_reducible refine LeO.ite ?_ ?_)
      | (with_reducible refine LeO.bind ?_ (fun _ => ?_))
      | exact ih0 _ _ _ _
      | exact ih1 _ _ _
      | exact ih2 _ _ _ _
      | exact ih3 _ _ _
      | exact LeO.none _
      | refine LeO.ite ?_ ?_
      | refine LeO.bind ?_ (fun _ => ?_)
    · intro y0 y1 y2
      unfold lathelaw02_FloatKeeps.j1
      repeat' first
      | (with_reducible exact ih0 _ _ _ _)
      | (with_reducible exact ih1 _ _ _)
      | (with_reducible exact ih2 _ _ _ _)
      | (with_reducible exact ih3 _ _ _)
      | (with_reducible exact LeO.refl _)
      | (with_reducible exact LeO.none _)
      | (with_reducible refine LeO.ite ?_ ?_)
      | (with_reducible refine LeO.bind ?_ (fun _ => ?_))
      | exact ih0 _ _ _ _
      | exact ih1 _ _ _
      | exact ih2 _ _ _ _
      | exact ih3 _ _ _
      | exact LeO.none _
      | refine LeO.ite ?_ ?_
      | refine LeO.bind ?_ (fun _ => ?_)
    · intro y0 y1 y2 y3
      unfold lathelaw02_FloatKeeps.j2
      repeat' first
      | (with_reducible exact ih0 _ _ _ _)
      | (with_reducible exact ih1 _ _ _)
      | (with_reducible exact ih2 _ _ _ _)
      | (with_reducible exact ih3 _ _ _)
      | (with_reducible exact LeO.refl _)
      | (with_reducible exact LeO.none _)
      | (with_reducible refine LeO.ite ?_ ?_)
      | (with_reducible refine LeO.bind ?_ (fun _ => ?_))
      | exact ih0 _ _ _ _
      | exact ih1 _ _ _
      | exact ih2 _ _ _ _
      | exact ih3 _ _ _
      | exact LeO.none _
      | refine LeO.ite ?_ ?_
      | refine LeO.bind ?_ (fun _ => ?_)
    · intro y0 y1 y2
      unfold lathelaw02_FloatKeeps.j3
      repeat' first
      | (with_reducible exact ih0 _ _ _ _)
      | (with_reducible exact ih1 _ _ _)
      | (with_reducible exact ih2 _ _ _ _)
      | (with_reducible exact ih3 _ _ _)
      | (with_reducible exact LeO.refl _)
      | (with_reducible exact LeO.none _)
      | (with_reducible refine LeO.ite ?_ ?_)
      | (with_reducible refine LeO.bind ?_ (fun _ => ?_))
      | exact ih0 _ _ _ _
      | exact ih1 _ _ _
      | exact ih2 _ _ _ _
      | exact ih3 _ _ _
      | exact LeO.none _
      | refine LeO.ite ?_ ?_
      | refine LeO.bind ?_ (fun _ => ?_)
theorem lathelaw02_FloatKeeps.mono : ∀ a0 a1 a2 k, LeO (lathelaw02_FloatKeeps.f k a0 a1 a2) (lathelaw02_FloatKeeps.f (k + 1) a0 a1 a2) := by
  intro a0 a1 a2 k
  obtain ⟨ih0, ih1, ih2, ih3⟩ := lathelaw02_FloatKeeps.mono_l k
  unfold lathelaw02_FloatKeeps.f
  repeat' first
      | (with_reducible exact ih0 _ _ _ _)
      | (with_reducible exact ih1 _ _ _)
      | (with_reducible exact ih2 _ _ _ _)
      | (with_reducible exact ih3 _ _ _)
      | (with_reducible exact LeO.refl _)
      | (with_reducible exact LeO.none _)
      | (with_reducible refine LeO.ite ?_ ?_)
      | (with_reducible refine LeO.bind ?_ (fun _ => ?_))
      | exact ih0 _ _ _ _
      | exact ih1 _ _ _
      | exact ih2 _ _ _ _
      | exact ih3 _ _ _
      | exact LeO.none _
      | refine LeO.ite ?_ ?_
      | refine LeO.bind ?_ (fun _ => ?_)
set_option maxHeartbeats 8000000 in
set_option maxRecDepth 100000 in
theorem lathelaw02_FloatKeeps.calls (k : Nat) (a0 : Int) (a1 : Int) (a2 : Int) (r : Bool) (w : World) (h : lathelaw02_FloatKeeps.f k a0 a1 a2 = some r) :
    Calls Try.prog 16 #[.int .u32 a0, .int .u32 a1, .int .u32 a2] w fun e w' => e = .returned (.bool r) ∧ Drawn0 w w' := by
  have H : ((lathelaw02_nan.f a0).bind fun t389 => (if t389 = true then (lathelaw02_FloatKeeps.j0 k a0 a1 a2 true) else ((lathelaw02_nan.f a1).bind fun t390 => (lathelaw02_FloatKeeps.j0 k a0 a1 a2 t390)))) = some r := h
  clear h
  have HC4 := Aside0.mk H
  clear H
  go_enter Try.func16, Try.ntmps16
  go_upto_region 1 with (fail)
  go_cut [14] (fun v14 wc => ∃ (kq : Nat) (x14_3 : Bool), v14 = .bool x14_3 ∧ Aside0 (lathelaw02_FloatKeeps.j0 kq a0 a1 a2 x14_3 = some r) ∧ Aside0 (kq ≤ k) ∧ Drawn0 w wc)
  case first =>
    have H := HC4.out
    clear HC4
    replace H := Option.bind_eq_some_iff.mp H
    obtain ⟨t389, A50, H⟩ := H
    replace H : (if t389 = true then (lathelaw02_FloatKeeps.j0 k a0 a1 a2 true) else ((lathelaw02_nan.f a1).bind fun t390 => (lathelaw02_FloatKeeps.j0 k a0 a1 a2 t390))) = some r := H
    have A5 := Aside0.mk A50
    clear A50
    by_cases c6 : t389 = true
    · subst c6
      have H1 : (lathelaw02_FloatKeeps.j0 k a0 a1 a2 true) = some r := by rw [if_pos rfl] at H; exact H
      clear H
      have H := H1
      clear H1
      have H' := Aside0.mk H
      clear H
      go_wp2_with (first | ((with_reducible refine gate_callee (f := 66) rfl ?_); refine goesL_ (some 10) rfl rfl Try.func66 (by kernel_rfl) rfl #[.int .u32 a0] rfl (by (try simp only [List.map_toArray, List.map_cons, List.map_nil]); first | done | rfl | (simp only [List.length_drop, List.length_take]; rfl)) ?_; (with_reducible refine (lathelaw02_nan.calls a0 true _ A5.out).mono ?_); rintro e w' ⟨rfl, ⟨nd, rfl⟩⟩; refine ⟨_, rfl, ?_⟩))
      go_meet
      case rel => exact ⟨_, (true), (by first | rfl | (simp; done) | (simp [*]; done)), H', ⟨by first | omega | exact Nat.le_refl _⟩, by repeat (first | exact Drawn0.refl _ | apply Drawn0.step)⟩
    · replace c6 := Bool.eq_false_iff.mpr c6
      subst c6
      have H1 : ((lathelaw02_nan.f a1).bind fun t390 => (lathelaw02_FloatKeeps.j0 k a0 a1 a2 t390)) = some r := by rw [if_neg (show ¬ (false = true) by decide)] at H; exact H
      clear H
      have H := H1
      clear H1
      replace H := Option.bind_eq_some_iff.mp H
      obtain ⟨t390, A70, H⟩ := H
      replace H : (lathelaw02_FloatKeeps.j0 k a0 a1 a2 t390) = some r := H
      have A7 := Aside0.mk A70
      clear A70
      have H' := Aside0.mk H
      clear H
      go_wp2_with (first | ((with_reducible refine gate_callee (f := 66) rfl ?_); refine goesL_ (some 10) rfl rfl Try.func66 (by kernel_rfl) rfl #[.int .u32 a0] rfl (by (try simp only [List.map_toArray, List.map_cons, List.map_nil]); first | done | rfl | (simp only [List.length_drop, List.length_take]; rfl)) ?_; (with_reducible refine (lathelaw02_nan.calls a0 false _ A5.out).mono ?_); rintro e w' ⟨rfl, ⟨nd, rfl⟩⟩; refine ⟨_, rfl, ?_⟩) | (go_at_call 66; (with_reducible refine (lathelaw02_nan.calls a1 t390 _ A7.out).mono ?_); clear A7; rintro e w' ⟨rfl, ⟨nd, rfl⟩⟩))
      go_meet
      case rel => exact ⟨_, (t390), (by first | rfl | (simp; done) | (simp [*]; done)), H', ⟨by first | omega | exact Nat.le_refl _⟩, by repeat (first | exact Drawn0.refl _ | apply Drawn0.step)⟩
  case rest =>
    clear HC4
    try clear c1
    try clear p2
    try clear c6
    obtain ⟨kq, x14_3, rfl, HA, HJ3, ⟨mc3, rfl⟩⟩ := hcut
    cases kq with
    | zero => exact absurd HA.out (by simp [lathelaw02_FloatKeeps.j0])
    | succ kj3 =>
      have H := HA.out
      clear HA
      simp only [lathelaw02_FloatKeeps.j0] at H
      by_cases c8 : x14_3 = true
      · subst c8
        have H1 : ((lathelaw02_works.f).bind fun t391 => (some t391)) = some r := by rw [if_pos rfl] at H; exact H
        clear H
        have H := H1
        clear H1
        replace H := Option.bind_eq_some_iff.mp H
        obtain ⟨t391, A90, H⟩ := H
        replace H : (some t391) = some r := H
        have A9 := Aside0.mk A90
        clear A90
        obtain rfl := Option.some.inj H
        go_wp2_with (first | ((with_reducible refine gate_callee (f := 50) rfl ?_); refine goesL_ (some 15) rfl rfl Try.func50 (by kernel_rfl) rfl #[] rfl (by (try simp only [List.map_toArray, List.map_cons, List.map_nil]); first | done | rfl | (simp only [List.length_drop, List.length_take]; rfl)) ?_; (with_reducible refine (lathelaw02_works.calls  t391 _ A9.out).mono ?_); rintro e w' ⟨rfl, ⟨nd, rfl⟩⟩; refine ⟨_, rfl, ?_⟩))
        go_ret
        exact ⟨by first | rfl | (simp; done) | (simp [*]; done), by repeat (first | exact Drawn0.refl _ | apply Drawn0.step)⟩
      · replace c8 := Bool.eq_false_iff.mpr c8
        subst c8
        have H1 : ((float_Less.f a1 a0).bind fun t392 => (if t392 = true then (lathelaw02_FloatKeeps.j1 kj3 a1 a0 a2) else (lathelaw02_FloatKeeps.j1 kj3 a0 a1 a2))) = some r := by rw [if_neg (show ¬ (false = true) by decide)] at H; exact H
        clear H
        have H := H1
        clear H1
        replace H := Option.bind_eq_some_iff.mp H
        obtain ⟨t392, A100, H⟩ := H
        replace H : (if t392 = true then (lathelaw02_FloatKeeps.j1 kj3 a1 a0 a2) else (lathelaw02_FloatKeeps.j1 kj3 a0 a1 a2)) = some r := H
        have A10 := Aside0.mk A100
        clear A100
        have HC11 := Aside0.mk H
        clear H
        go_upto_if 18 with (first | ((with_reducible refine gate_callee (f := 67) rfl ?_); refine goesL_ (some 18) rfl rfl Try.func67 (by kernel_rfl) rfl #[.int .u32 a1, .int .u32 a0] rfl (by (try simp only [List.map_toArray, List.map_cons, List.map_nil]); first | done | rfl | (simp only [List.length_drop, List.length_take]; rfl)) ?_; (with_reducible refine (float_Less.calls a1 a0 t392 _ A10.out).mono ?_); rintro e w' ⟨rfl, ⟨nd, rfl⟩⟩; refine ⟨_, rfl, ?_⟩))
        (try simp only [Act.put, List.setIfInBounds_toArray, List.set_cons_zero, List.set_cons_succ])
        go_cut [0, 1] (fun v0 v1 wc => ∃ (kq : Nat) (x0_10 : Int) (x1_10 : Int), v0 = .int .u32 x0_10 ∧ v1 = .int .u32 x1_10 ∧ Aside0 (lathelaw02_FloatKeeps.j1 kq x0_10 x1_10 a2 = some r) ∧ Aside0 (kq ≤ kj3) ∧ Drawn0 w wc)
        case first =>
          have H := HC11.out
          clear HC11
          by_cases c12 : t392 = true
          · subst c12
            have H1 : (lathelaw02_FloatKeeps.j1 kj3 a1 a0 a2) = some r := by rw [if_pos rfl] at H; exact H
            clear H
            have H := H1
            clear H1
            have H' := Aside0.mk H
            clear H
            go_wp2
            go_meet
            case rel => exact ⟨_, (a1), (a0), (by first | rfl | (simp; done) | (simp [*]; done)), (by first | rfl | (simp; done) | (simp [*]; done)), H', ⟨by have := HJ3.out; first | omega | exact Nat.le_refl _⟩, by repeat (first | exact Drawn0.refl _ | apply Drawn0.step)⟩
          · replace c12 := Bool.eq_false_iff.mpr c12
            subst c12
            have H1 : (lathelaw02_FloatKeeps.j1 kj3 a0 a1 a2) = some r := by rw [if_neg (show ¬ (false = true) by decide)] at H; exact H
            clear H
            have H := H1
            clear H1
            have H' := Aside0.mk H
            clear H
            go_wp2
            go_meet
            case rel => exact ⟨_, (a0), (a1), (by first | rfl | (simp; done) | (simp [*]; done)), (by first | rfl | (simp; done) | (simp [*]; done)), H', ⟨by have := HJ3.out; first | omega | exact Nat.le_refl _⟩, by repeat (first | exact Drawn0.refl _ | apply Drawn0.step)⟩
        case rest =>
          clear HC11
          try clear c1
          try clear p2
          try clear c3
          try clear c5
          try clear c6
          try clear c8
          try clear c12
          try clear p2
          obtain ⟨kq, x0_10, x1_10, rfl, rfl, HA, HJ10, ⟨mc10, rfl⟩⟩ := hcut
          cases kq with
          | zero => exact absurd HA.out (by simp [lathelaw02_FloatKeeps.j1])
          | succ kj10 =>
            have H := HA.out
            clear HA
            simp only [lathelaw02_FloatKeeps.j1] at H
            replace H := Option.bind_eq_some_iff.mp H
            obtain ⟨t393, A130, H⟩ := H
            replace H : ((float_Add.f x1_10 a2).bind fun t394 => ((lathelaw02_nan.f t393).bind fun t395 => (if t395 = true then (lathelaw02_FloatKeeps.j2 kj10 x0_10 x1_10 a2 false) else ((lathelaw02_nan.f t394).bind fun t396 => (if t396 = true then (lathelaw02_FloatKeeps.j2 kj10 x0_10 x1_10 a2 false) else ((lathelaw02_least.f t393 t394).bind fun t397 => (lathelaw02_FloatKeeps.j2 kj10 x0_10 x1_10 a2 (!t397)))))))) = some r := H
            have A13 := Aside0.mk A130
            clear A130
            replace H := Option.bind_eq_some_iff.mp H
            obtain ⟨t394, A140, H⟩ := H
            replace H : ((lathelaw02_nan.f t393).bind fun t395 => (if t395 = true then (lathelaw02_FloatKeeps.j2 kj10 x0_10 x1_10 a2 false) else ((lathelaw02_nan.f t394).bind fun t396 => (if t396 = true then (lathelaw02_FloatKeeps.j2 kj10 x0_10 x1_10 a2 false) else ((lathelaw02_least.f t393 t394).bind fun t397 => (lathelaw02_FloatKeeps.j2 kj10 x0_10 x1_10 a2 (!t397))))))) = some r := H
            have A14 := Aside0.mk A140
            clear A140
            have HC15 := Aside0.mk H
            clear H
            go_upto_region 6 with (first | ((with_reducible refine gate_callee (f := 53) rfl ?_); refine goesL_ (some 23) rfl rfl Try.func53 (by kernel_rfl) rfl #[.int .u32 x0_10, .int .u32 a2] rfl (by (try simp only [List.map_toArray, List.map_cons, List.map_nil]); first | done | rfl | (simp only [List.length_drop, List.length_take]; rfl)) ?_; (with_reducible refine (float_Add.calls x0_10 a2 t393 _ A13.out).mono ?_); rintro e w' ⟨rfl, ⟨nd, rfl⟩⟩; refine ⟨_, rfl, ?_⟩) | ((with_reducible refine gate_callee (f := 53) rfl ?_); refine goesL_ (some 26) rfl rfl Try.func53 (by kernel_rfl) rfl #[.int .u32 x1_10, .int .u32 a2] rfl (by (try simp only [List.map_toArray, List.map_cons, List.map_nil]); first | done | rfl | (simp only [List.length_drop, List.length_take]; rfl)) ?_; (with_reducible refine (float_Add.calls x1_10 a2 t394 _ A14.out).mono ?_); rintro e w' ⟨rfl, ⟨nd, rfl⟩⟩; refine ⟨_, rfl, ?_⟩))
            (try simp only [Act.put, List.setIfInBounds_toArray, List.set_cons_zero, List.set_cons_succ])
            go_cut [40] (fun v40 wc => ∃ (kq : Nat) (x40_14 : Bool), v40 = .bool x40_14 ∧ Aside0 (lathelaw02_FloatKeeps.j2 kq x0_10 x1_10 a2 x40_14 = some r) ∧ Aside0 (kq ≤ kj10) ∧ Drawn0 w wc)
            case first =>
              have H := HC15.out
              clear HC15
              replace H := Option.bind_eq_some_iff.mp H
              obtain ⟨t395, A160, H⟩ := H
              replace H : (if t395 = true then (lathelaw02_FloatKeeps.j2 kj10 x0_10 x1_10 a2 false) else ((lathelaw02_nan.f t394).bind fun t396 => (if t396 = true then (lathelaw02_FloatKeeps.j2 kj10 x0_10 x1_10 a2 false) else ((lathelaw02_least.f t393 t394).bind fun t397 => (lathelaw02_FloatKeeps.j2 kj10 x0_10 x1_10 a2 (!t397)))))) = some r := H
              have A16 := Aside0.mk A160
              clear A160
              by_cases c17 : t395 = true
              · subst c17
                have H1 : (lathelaw02_FloatKeeps.j2 kj10 x0_10 x1_10 a2 false) = some r := by rw [if_pos rfl] at H; exact H
                clear H
                have H := H1
                clear H1
                have H' := Aside0.mk H
                clear H
                go_wp2_with (first | ((with_reducible refine gate_callee (f := 66) rfl ?_); refine goesL_ (some 28) rfl rfl Try.func66 (by kernel_rfl) rfl #[.int .u32 t393] rfl (by (try simp only [List.map_toArray, List.map_cons, List.map_nil]); first | done | rfl | (simp only [List.length_drop, List.length_take]; rfl)) ?_; (with_reducible refine (lathelaw02_nan.calls t393 true _ A16.out).mono ?_); rintro e w' ⟨rfl, ⟨nd, rfl⟩⟩; refine ⟨_, rfl, ?_⟩))
                go_meet
                case rel => exact ⟨_, (false), (by first | rfl | (simp; done) | (simp [*]; done)), H', ⟨by have := HJ3.out; have := HJ10.out; first | omega | exact Nat.le_refl _⟩, by repeat (first | exact Drawn0.refl _ | apply Drawn0.step)⟩
              · replace c17 := Bool.eq_false_iff.mpr c17
                subst c17
                have H1 : ((lathelaw02_nan.f t394).bind fun t396 => (if t396 = true then (lathelaw02_FloatKeeps.j2 kj10 x0_10 x1_10 a2 false) else ((lathelaw02_least.f t393 t394).bind fun t397 => (lathelaw02_FloatKeeps.j2 kj10 x0_10 x1_10 a2 (!t397))))) = some r := by rw [if_neg (show ¬ (false = true) by decide)] at H; exact H
                clear H
                have H := H1
                clear H1
                replace H := Option.bind_eq_some_iff.mp H
                obtain ⟨t396, A180, H⟩ := H
                replace H : (if t396 = true then (lathelaw02_FloatKeeps.j2 kj10 x0_10 x1_10 a2 false) else ((lathelaw02_least.f t393 t394).bind fun t397 => (lathelaw02_FloatKeeps.j2 kj10 x0_10 x1_10 a2 (!t397)))) = some r := H
                have A18 := Aside0.mk A180
                clear A180
                by_cases c19 : t396 = true
                · subst c19
                  have H1 : (lathelaw02_FloatKeeps.j2 kj10 x0_10 x1_10 a2 false) = some r := by rw [if_pos rfl] at H; exact H
                  clear H
                  have H := H1
                  clear H1
                  have H' := Aside0.mk H
                  clear H
                  go_wp2_with (first | ((with_reducible refine gate_callee (f := 66) rfl ?_); refine goesL_ (some 28) rfl rfl Try.func66 (by kernel_rfl) rfl #[.int .u32 t393] rfl (by (try simp only [List.map_toArray, List.map_cons, List.map_nil]); first | done | rfl | (simp only [List.length_drop, List.length_take]; rfl)) ?_; (with_reducible refine (lathelaw02_nan.calls t393 false _ A16.out).mono ?_); rintro e w' ⟨rfl, ⟨nd, rfl⟩⟩; refine ⟨_, rfl, ?_⟩) | (go_at_call 66; (with_reducible refine (lathelaw02_nan.calls t394 true _ A18.out).mono ?_); clear A18; rintro e w' ⟨rfl, ⟨nd, rfl⟩⟩))
                  go_meet
                  case rel => exact ⟨_, (false), (by first | rfl | (simp; done) | (simp [*]; done)), H', ⟨by have := HJ3.out; have := HJ10.out; first | omega | exact Nat.le_refl _⟩, by repeat (first | exact Drawn0.refl _ | apply Drawn0.step)⟩
                · replace c19 := Bool.eq_false_iff.mpr c19
                  subst c19
                  have H1 : ((lathelaw02_least.f t393 t394).bind fun t397 => (lathelaw02_FloatKeeps.j2 kj10 x0_10 x1_10 a2 (!t397))) = some r := by rw [if_neg (show ¬ (false = true) by decide)] at H; exact H
                  clear H
                  have H := H1
                  clear H1
                  replace H := Option.bind_eq_some_iff.mp H
                  obtain ⟨t397, A200, H⟩ := H
                  replace H : (lathelaw02_FloatKeeps.j2 kj10 x0_10 x1_10 a2 (!t397)) = some r := H
                  have A20 := Aside0.mk A200
                  clear A200
                  have H' := Aside0.mk H
                  clear H
                  go_wp2_with (first | ((with_reducible refine gate_callee (f := 66) rfl ?_); refine goesL_ (some 28) rfl rfl Try.func66 (by kernel_rfl) rfl #[.int .u32 t393] rfl (by (try simp only [List.map_toArray, List.map_cons, List.map_nil]); first | done | rfl | (simp only [List.length_drop, List.length_take]; rfl)) ?_; (with_reducible refine (lathelaw02_nan.calls t393 false _ A16.out).mono ?_); rintro e w' ⟨rfl, ⟨nd, rfl⟩⟩; refine ⟨_, rfl, ?_⟩) | (go_at_call 66; (with_reducible refine (lathelaw02_nan.calls t394 false _ A18.out).mono ?_); clear A18; rintro e w' ⟨rfl, ⟨nd, rfl⟩⟩) | (go_at_call 68; (with_reducible refine (lathelaw02_least.calls t393 t394 t397 _ A20.out).mono ?_); clear A20; rintro e w' ⟨rfl, ⟨nd, rfl⟩⟩))
                  go_meet
                  case rel => exact ⟨_, (!t397), (by first | rfl | (simp; done) | (simp [*]; done)), H', ⟨by have := HJ3.out; have := HJ10.out; first | omega | exact Nat.le_refl _⟩, by repeat (first | exact Drawn0.refl _ | apply Drawn0.step)⟩
            case rest =>
              clear HC15
              try clear c1
              try clear p2
              try clear c3
              try clear c5
              try clear c6
              try clear c8
              try clear c10
              try clear c12
              try clear c16
              try clear c17
              try clear c19
              try clear p2
              obtain ⟨kq, x40_14, rfl, HA, HJ14, ⟨mc14, rfl⟩⟩ := hcut
              cases kq with
              | zero => exact absurd HA.out (by simp [lathelaw02_FloatKeeps.j2])
              | succ kj14 =>
                have H := HA.out
                clear HA
                simp only [lathelaw02_FloatKeeps.j2] at H
                by_cases c21 : x40_14 = true
                · subst c21
                  have H1 : (some false) = some r := by rw [if_pos rfl] at H; exact H
                  clear H
                  have H := H1
                  clear H1
                  obtain rfl := Option.some.inj H
                  go_wp2
                  go_ret
                  exact ⟨by first | rfl | (simp; done) | (simp [*]; done), by repeat (first | exact Drawn0.refl _ | apply Drawn0.step)⟩
                · replace c21 := Bool.eq_false_iff.mpr c21
                  subst c21
                  have H1 : ((float_Abs.f a2).bind fun t398 => ((float_Mul.f x0_10 t398).bind fun t399 => ((float_Mul.f x1_10 t398).bind fun t400 => ((float_Less.f 0 t398).bind fun t401 => (if t401 = true then ((lathelaw02_nan.f t399).bind fun t402 => (if t402 = true then (lathelaw02_FloatKeeps.j3 kj14 x0_10 x1_10 false) else ((lathelaw02_nan.f t400).bind fun t403 => (if t403 = true then (lathelaw02_FloatKeeps.j3 kj14 x0_10 x1_10 false) else ((lathelaw02_least.f t399 t400).bind fun t404 => (lathelaw02_FloatKeeps.j3 kj14 x0_10 x1_10 (!t404))))))) else (lathelaw02_FloatKeeps.j3 kj14 x0_10 x1_10 false)))))) = some r := by rw [if_neg (show ¬ (false = true) by decide)] at H; exact H
                  clear H
                  have H := H1
                  clear H1
                  replace H := Option.bind_eq_some_iff.mp H
                  obtain ⟨t398, A220, H⟩ := H
                  replace H : ((float_Mul.f x0_10 t398).bind fun t399 => ((float_Mul.f x1_10 t398).bind fun t400 => ((float_Less.f 0 t398).bind fun t401 => (if t401 = true then ((lathelaw02_nan.f t399).bind fun t402 => (if t402 = true then (lathelaw02_FloatKeeps.j3 kj14 x0_10 x1_10 false) else ((lathelaw02_nan.f t400).bind fun t403 => (if t403 = true then (lathelaw02_FloatKeeps.j3 kj14 x0_10 x1_10 false) else ((lathelaw02_least.f t399 t400).bind fun t404 => (lathelaw02_FloatKeeps.j3 kj14 x0_10 x1_10 (!t404))))))) else (lathelaw02_FloatKeeps.j3 kj14 x0_10 x1_10 false))))) = some r := H
                  have A22 := Aside0.mk A220
                  clear A220
                  replace H := Option.bind_eq_some_iff.mp H
                  obtain ⟨t399, A230, H⟩ := H
                  replace H : ((float_Mul.f x1_10 t398).bind fun t400 => ((float_Less.f 0 t398).bind fun t401 => (if t401 = true then ((lathelaw02_nan.f t399).bind fun t402 => (if t402 = true then (lathelaw02_FloatKeeps.j3 kj14 x0_10 x1_10 false) else ((lathelaw02_nan.f t400).bind fun t403 => (if t403 = true then (lathelaw02_FloatKeeps.j3 kj14 x0_10 x1_10 false) else ((lathelaw02_least.f t399 t400).bind fun t404 => (lathelaw02_FloatKeeps.j3 kj14 x0_10 x1_10 (!t404))))))) else (lathelaw02_FloatKeeps.j3 kj14 x0_10 x1_10 false)))) = some r := H
                  have A23 := Aside0.mk A230
                  clear A230
                  replace H := Option.bind_eq_some_iff.mp H
                  obtain ⟨t400, A240, H⟩ := H
                  replace H : ((float_Less.f 0 t398).bind fun t401 => (if t401 = true then ((lathelaw02_nan.f t399).bind fun t402 => (if t402 = true then (lathelaw02_FloatKeeps.j3 kj14 x0_10 x1_10 false) else ((lathelaw02_nan.f t400).bind fun t403 => (if t403 = true then (lathelaw02_FloatKeeps.j3 kj14 x0_10 x1_10 false) else ((lathelaw02_least.f t399 t400).bind fun t404 => (lathelaw02_FloatKeeps.j3 kj14 x0_10 x1_10 (!t404))))))) else (lathelaw02_FloatKeeps.j3 kj14 x0_10 x1_10 false))) = some r := H
                  have A24 := Aside0.mk A240
                  clear A240
                  have HC25 := Aside0.mk H
                  clear H
                  go_upto_region 10 with (first | ((with_reducible refine gate_callee (f := 64) rfl ?_); refine goesL_ (some 42) rfl rfl Try.func64 (by kernel_rfl) rfl #[.int .u32 a2] rfl (by (try simp only [List.map_toArray, List.map_cons, List.map_nil]); first | done | rfl | (simp only [List.length_drop, List.length_take]; rfl)) ?_; (with_reducible refine (float_Abs.calls a2 t398 _ A22.out).mono ?_); rintro e w' ⟨rfl, ⟨nd, rfl⟩⟩; refine ⟨_, rfl, ?_⟩) | ((with_reducible refine gate_callee (f := 48) rfl ?_); refine goesL_ (some 45) rfl rfl Try.func48 (by kernel_rfl) rfl #[.int .u32 x0_10, .int .u32 t398] rfl (by (try simp only [List.map_toArray, List.map_cons, List.map_nil]); first | done | rfl | (simp only [List.length_drop, List.length_take]; rfl)) ?_; (with_reducible refine (float_Mul.calls x0_10 t398 t399 _ A23.out).mono ?_); rintro e w' ⟨rfl, ⟨nd, rfl⟩⟩; refine ⟨_, rfl, ?_⟩) | ((with_reducible refine gate_callee (f := 48) rfl ?_); refine goesL_ (some 48) rfl rfl Try.func48 (by kernel_rfl) rfl #[.int .u32 x1_10, .int .u32 t398] rfl (by (try simp only [List.map_toArray, List.map_cons, List.map_nil]); first | done | rfl | (simp only [List.length_drop, List.length_take]; rfl)) ?_; (with_reducible refine (float_Mul.calls x1_10 t398 t400 _ A24.out).mono ?_); rintro e w' ⟨rfl, ⟨nd, rfl⟩⟩; refine ⟨_, rfl, ?_⟩))
                  (try simp only [Act.put, List.setIfInBounds_toArray, List.set_cons_zero, List.set_cons_succ])
                  go_cut [66] (fun v66 wc => ∃ (kq : Nat) (x66_24 : Bool), v66 = .bool x66_24 ∧ Aside0 (lathelaw02_FloatKeeps.j3 kq x0_10 x1_10 x66_24 = some r) ∧ Aside0 (kq ≤ kj14) ∧ Drawn0 w wc)
                  case first =>
                    have H := HC25.out
                    clear HC25
                    replace H := Option.bind_eq_some_iff.mp H
                    obtain ⟨t401, A260, H⟩ := H
                    replace H : (if t401 = true then ((lathelaw02_nan.f t399).bind fun t402 => (if t402 = true then (lathelaw02_FloatKeeps.j3 kj14 x0_10 x1_10 false) else ((lathelaw02_nan.f t400).bind fun t403 => (if t403 = true then (lathelaw02_FloatKeeps.j3 kj14 x0_10 x1_10 false) else ((lathelaw02_least.f t399 t400).bind fun t404 => (lathelaw02_FloatKeeps.j3 kj14 x0_10 x1_10 (!t404))))))) else (lathelaw02_FloatKeeps.j3 kj14 x0_10 x1_10 false)) = some r := H
                    have A26 := Aside0.mk A260
                    clear A260
                    by_cases c27 : t401 = true
                    · subst c27
                      have H1 : ((lathelaw02_nan.f t399).bind fun t402 => (if t402 = true then (lathelaw02_FloatKeeps.j3 kj14 x0_10 x1_10 false) else ((lathelaw02_nan.f t400).bind fun t403 => (if t403 = true then (lathelaw02_FloatKeeps.j3 kj14 x0_10 x1_10 false) else ((lathelaw02_least.f t399 t400).bind fun t404 => (lathelaw02_FloatKeeps.j3 kj14 x0_10 x1_10 (!t404))))))) = some r := by rw [if_pos rfl] at H; exact H
                      clear H
                      have H := H1
                      clear H1
                      replace H := Option.bind_eq_some_iff.mp H
                      obtain ⟨t402, A280, H⟩ := H
                      replace H : (if t402 = true then (lathelaw02_FloatKeeps.j3 kj14 x0_10 x1_10 false) else ((lathelaw02_nan.f t400).bind fun t403 => (if t403 = true then (lathelaw02_FloatKeeps.j3 kj14 x0_10 x1_10 false) else ((lathelaw02_least.f t399 t400).bind fun t404 => (lathelaw02_FloatKeeps.j3 kj14 x0_10 x1_10 (!t404)))))) = some r := H
                      have A28 := Aside0.mk A280
                      clear A280
                      by_cases c29 : t402 = true
                      · subst c29
                        have H1 : (lathelaw02_FloatKeeps.j3 kj14 x0_10 x1_10 false) = some r := by rw [if_pos rfl] at H; exact H
                        clear H
                        have H := H1
                        clear H1
                        have H' := Aside0.mk H
                        clear H
                        go_wp2_with (first | ((with_reducible refine gate_callee (f := 67) rfl ?_); refine goesL_ (some 50) rfl rfl Try.func67 (by kernel_rfl) rfl #[.int .u32 0, .int .u32 t398] rfl (by (try simp only [List.map_toArray, List.map_cons, List.map_nil]); first | done | rfl | (simp only [List.length_drop, List.length_take]; rfl)) ?_; (with_reducible refine (float_Less.calls 0 t398 true _ A26.out).mono ?_); rintro e w' ⟨rfl, ⟨nd, rfl⟩⟩; refine ⟨_, rfl, ?_⟩) | (go_at_call 66; (with_reducible refine (lathelaw02_nan.calls t399 true _ A28.out).mono ?_); clear A28; rintro e w' ⟨rfl, ⟨nd, rfl⟩⟩))
                        go_meet
                        case rel => exact ⟨_, (false), (by first | rfl | (simp; done) | (simp [*]; done)), H', ⟨by have := HJ3.out; have := HJ10.out; have := HJ14.out; first | omega | exact Nat.le_refl _⟩, by repeat (first | exact Drawn0.refl _ | apply Drawn0.step)⟩
                      · replace c29 := Bool.eq_false_iff.mpr c29
                        subst c29
                        have H1 : ((lathelaw02_nan.f t400).bind fun t403 => (if t403 = true then (lathelaw02_FloatKeeps.j3 kj14 x0_10 x1_10 false) else ((lathelaw02_least.f t399 t400).bind fun t404 => (lathelaw02_FloatKeeps.j3 kj14 x0_10 x1_10 (!t404))))) = some r := by rw [if_neg (show ¬ (false = true) by decide)] at H; exact H
                        clear H
                        have H := H1
                        clear H1
                        replace H := Option.bind_eq_some_iff.mp H
                        obtain ⟨t403, A300, H⟩ := H
                        replace H : (if t403 = true then (lathelaw02_FloatKeeps.j3 kj14 x0_10 x1_10 false) else ((lathelaw02_least.f t399 t400).bind fun t404 => (lathelaw02_FloatKeeps.j3 kj14 x0_10 x1_10 (!t404)))) = some r := H
                        have A30 := Aside0.mk A300
                        clear A300
                        by_cases c31 : t403 = true
                        · subst c31
                          have H1 : (lathelaw02_FloatKeeps.j3 kj14 x0_10 x1_10 false) = some r := by rw [if_pos rfl] at H; exact H
                          clear H
                          have H := H1
                          clear H1
                          have H' := Aside0.mk H
                          clear H
                          go_wp2_with (first | ((with_reducible refine gate_callee (f := 67) rfl ?_); refine goesL_ (some 50) rfl rfl Try.func67 (by kernel_rfl) rfl #[.int .u32 0, .int .u32 t398] rfl (by (try simp only [List.map_toArray, List.map_cons, List.map_nil]); first | done | rfl | (simp only [List.length_drop, List.length_take]; rfl)) ?_; (with_reducible refine (float_Less.calls 0 t398 true _ A26.out).mono ?_); rintro e w' ⟨rfl, ⟨nd, rfl⟩⟩; refine ⟨_, rfl, ?_⟩) | (go_at_call 66; (with_reducible refine (lathelaw02_nan.calls t399 false _ A28.out).mono ?_); clear A28; rintro e w' ⟨rfl, ⟨nd, rfl⟩⟩) | (go_at_call 66; (with_reducible refine (lathelaw02_nan.calls t400 true _ A30.out).mono ?_); clear A30; rintro e w' ⟨rfl, ⟨nd, rfl⟩⟩))
                          go_meet
                          case rel => exact ⟨_, (false), (by first | rfl | (simp; done) | (simp [*]; done)), H', ⟨by have := HJ3.out; have := HJ10.out; have := HJ14.out; first | omega | exact Nat.le_refl _⟩, by repeat (first | exact Drawn0.refl _ | apply Drawn0.step)⟩
                        · replace c31 := Bool.eq_false_iff.mpr c31
                          subst c31
                          have H1 : ((lathelaw02_least.f t399 t400).bind fun t404 => (lathelaw02_FloatKeeps.j3 kj14 x0_10 x1_10 (!t404))) = some r := by rw [if_neg (show ¬ (false = true) by decide)] at H; exact H
                          clear H
                          have H := H1
                          clear H1
                          replace H := Option.bind_eq_some_iff.mp H
                          obtain ⟨t404, A320, H⟩ := H
                          replace H : (lathelaw02_FloatKeeps.j3 kj14 x0_10 x1_10 (!t404)) = some r := H
                          have A32 := Aside0.mk A320
                          clear A320
                          have H' := Aside0.mk H
                          clear H
                          go_wp2_with (first | ((with_reducible refine gate_callee (f := 67) rfl ?_); refine goesL_ (some 50) rfl rfl Try.func67 (by kernel_rfl) rfl #[.int .u32 0, .int .u32 t398] rfl (by (try simp only [List.map_toArray, List.map_cons, List.map_nil]); first | done | rfl | (simp only [List.length_drop, List.length_take]; rfl)) ?_; (with_reducible refine (float_Less.calls 0 t398 true _ A26.out).mono ?_); rintro e w' ⟨rfl, ⟨nd, rfl⟩⟩; refine ⟨_, rfl, ?_⟩) | (go_at_call 66; (with_reducible refine (lathelaw02_nan.calls t399 false _ A28.out).mono ?_); clear A28; rintro e w' ⟨rfl, ⟨nd, rfl⟩⟩) | (go_at_call 66; (with_reducible refine (lathelaw02_nan.calls t400 false _ A30.out).mono ?_); clear A30; rintro e w' ⟨rfl, ⟨nd, rfl⟩⟩) | (go_at_call 68; (with_reducible refine (lathelaw02_least.calls t399 t400 t404 _ A32.out).mono ?_); clear A32; rintro e w' ⟨rfl, ⟨nd, rfl⟩⟩))
                          go_meet
                          case rel => exact ⟨_, (!t404), (by first | rfl | (simp; done) | (simp [*]; done)), H', ⟨by have := HJ3.out; have := HJ10.out; have := HJ14.out; first | omega | exact Nat.le_refl _⟩, by repeat (first | exact Drawn0.refl _ | apply Drawn0.step)⟩
                    · replace c27 := Bool.eq_false_iff.mpr c27
                      subst c27
                      have H1 : (lathelaw02_FloatKeeps.j3 kj14 x0_10 x1_10 false) = some r := by rw [if_neg (show ¬ (false = true) by decide)] at H; exact H
                      clear H
                      have H := H1
                      clear H1
                      have H' := Aside0.mk H
                      clear H
                      go_wp2_with (first | ((with_reducible refine gate_callee (f := 67) rfl ?_); refine goesL_ (some 50) rfl rfl Try.func67 (by kernel_rfl) rfl #[.int .u32 0, .int .u32 t398] rfl (by (try simp only [List.map_toArray, List.map_cons, List.map_nil]); first | done | rfl | (simp only [List.length_drop, List.length_take]; rfl)) ?_; (with_reducible refine (float_Less.calls 0 t398 false _ A26.out).mono ?_); rintro e w' ⟨rfl, ⟨nd, rfl⟩⟩; refine ⟨_, rfl, ?_⟩))
                      go_meet
                      case rel => exact ⟨_, (false), (by first | rfl | (simp; done) | (simp [*]; done)), H', ⟨by have := HJ3.out; have := HJ10.out; have := HJ14.out; first | omega | exact Nat.le_refl _⟩, by repeat (first | exact Drawn0.refl _ | apply Drawn0.step)⟩
                  case rest =>
                    clear HC25
                    try clear c1
                    try clear c2
                    try clear p2
                    try clear c3
                    try clear c4
                    try clear c5
                    try clear c6
                    try clear c8
                    try clear c10
                    try clear c12
                    try clear c14
                    try clear c16
                    try clear c17
                    try clear c19
                    try clear c21
                    try clear c27
                    try clear c29
                    try clear c31
                    try clear p2
                    obtain ⟨kq, x66_24, rfl, HA, HJ24, ⟨mc24, rfl⟩⟩ := hcut
                    cases kq with
                    | zero => exact absurd HA.out (by simp [lathelaw02_FloatKeeps.j3])
                    | succ kj24 =>
                      have H := HA.out
                      clear HA
                      simp only [lathelaw02_FloatKeeps.j3] at H
                      by_cases c33 : x66_24 = true
                      · subst c33
                        have H1 : (some false) = some r := by rw [if_pos rfl] at H; exact H
                        clear H
                        have H := H1
                        clear H1
                        obtain rfl := Option.some.inj H
                        go_wp2
                        go_ret
                        exact ⟨by first | rfl | (simp; done) | (simp [*]; done), by repeat (first | exact Drawn0.refl _ | apply Drawn0.step)⟩
                      · replace c33 := Bool.eq_false_iff.mpr c33
                        subst c33
                        have H1 : ((float_Sqrt.f x0_10).bind fun t405 => ((float_Sqrt.f x1_10).bind fun t406 => ((lathelaw02_nan.f t405).bind fun t407 => (if t407 = true then ((lathelaw02_works.f).bind fun t408 => (some t408)) else ((lathelaw02_nan.f t406).bind fun t409 => (if t409 = true then ((lathelaw02_works.f).bind fun t410 => (some t410)) else ((lathelaw02_least.f t405 t406).bind fun t411 => (if t411 = true then ((lathelaw02_works.f).bind fun t412 => (some t412)) else (some false))))))))) = some r := by rw [if_neg (show ¬ (false = true) by decide)] at H; exact H
                        clear H
                        have H := H1
                        clear H1
                        replace H := Option.bind_eq_some_iff.mp H
                        obtain ⟨t405, A340, H⟩ := H
                        replace H : ((float_Sqrt.f x1_10).bind fun t406 => ((lathelaw02_nan.f t405).bind fun t407 => (if t407 = true then ((lathelaw02_works.f).bind fun t408 => (some t408)) else ((lathelaw02_nan.f t406).bind fun t409 => (if t409 = true then ((lathelaw02_works.f).bind fun t410 => (some t410)) else ((lathelaw02_least.f t405 t406).bind fun t411 => (if t411 = true then ((lathelaw02_works.f).bind fun t412 => (some t412)) else (some false)))))))) = some r := H
                        have A34 := Aside0.mk A340
                        clear A340
                        replace H := Option.bind_eq_some_iff.mp H
                        obtain ⟨t406, A350, H⟩ := H
                        replace H : ((lathelaw02_nan.f t405).bind fun t407 => (if t407 = true then ((lathelaw02_works.f).bind fun t408 => (some t408)) else ((lathelaw02_nan.f t406).bind fun t409 => (if t409 = true then ((lathelaw02_works.f).bind fun t410 => (some t410)) else ((lathelaw02_least.f t405 t406).bind fun t411 => (if t411 = true then ((lathelaw02_works.f).bind fun t412 => (some t412)) else (some false))))))) = some r := H
                        have A35 := Aside0.mk A350
                        clear A350
                        replace H := Option.bind_eq_some_iff.mp H
                        obtain ⟨t407, A360, H⟩ := H
                        replace H : (if t407 = true then ((lathelaw02_works.f).bind fun t408 => (some t408)) else ((lathelaw02_nan.f t406).bind fun t409 => (if t409 = true then ((lathelaw02_works.f).bind fun t410 => (some t410)) else ((lathelaw02_least.f t405 t406).bind fun t411 => (if t411 = true then ((lathelaw02_works.f).bind fun t412 => (some t412)) else (some false)))))) = some r := H
                        have A36 := Aside0.mk A360
                        clear A360
                        by_cases c37 : t407 = true
                        · subst c37
                          have H1 : ((lathelaw02_works.f).bind fun t408 => (some t408)) = some r := by rw [if_pos rfl] at H; exact H
                          clear H
                          have H := H1
                          clear H1
                          replace H := Option.bind_eq_some_iff.mp H
                          obtain ⟨t408, A380, H⟩ := H
                          replace H : (some t408) = some r := H
                          have A38 := Aside0.mk A380
                          clear A380
                          obtain rfl := Option.some.inj H
                          go_wp2_with (first | ((with_reducible refine gate_callee (f := 60) rfl ?_); refine goesL_ (some 68) rfl rfl Try.func60 (by kernel_rfl) rfl #[.int .u32 x0_10] rfl (by (try simp only [List.map_toArray, List.map_cons, List.map_nil]); first | done | rfl | (simp only [List.length_drop, List.length_take]; rfl)) ?_; (with_reducible refine (float_Sqrt.calls x0_10 t405 _ A34.out).mono ?_); rintro e w' ⟨rfl, ⟨nd, rfl⟩⟩; refine ⟨_, rfl, ?_⟩) | ((with_reducible refine gate_callee (f := 60) rfl ?_); refine goesL_ (some 70) rfl rfl Try.func60 (by kernel_rfl) rfl #[.int .u32 x1_10] rfl (by (try simp only [List.map_toArray, List.map_cons, List.map_nil]); first | done | rfl | (simp only [List.length_drop, List.length_take]; rfl)) ?_; (with_reducible refine (float_Sqrt.calls x1_10 t406 _ A35.out).mono ?_); rintro e w' ⟨rfl, ⟨nd, rfl⟩⟩; refine ⟨_, rfl, ?_⟩) | ((with_reducible refine gate_callee (f := 66) rfl ?_); refine goesL_ (some 72) rfl rfl Try.func66 (by kernel_rfl) rfl #[.int .u32 t405] rfl (by (try simp only [List.map_toArray, List.map_cons, List.map_nil]); first | done | rfl | (simp only [List.length_drop, List.length_take]; rfl)) ?_; (with_reducible refine (lathelaw02_nan.calls t405 true _ A36.out).mono ?_); rintro e w' ⟨rfl, ⟨nd, rfl⟩⟩; refine ⟨_, rfl, ?_⟩) | (go_at_call 50; (with_reducible refine (lathelaw02_works.calls  t408 _ A38.out).mono ?_); clear A38; rintro e w' ⟨rfl, ⟨nd, rfl⟩⟩))
                          go_ret
                          exact ⟨by first | rfl | (simp; done) | (simp [*]; done), by repeat (first | exact Drawn0.refl _ | apply Drawn0.step)⟩
                        · replace c37 := Bool.eq_false_iff.mpr c37
                          subst c37
                          have H1 : ((lathelaw02_nan.f t406).bind fun t409 => (if t409 = true then ((lathelaw02_works.f).bind fun t410 => (some t410)) else ((lathelaw02_least.f t405 t406).bind fun t411 => (if t411 = true then ((lathelaw02_works.f).bind fun t412 => (some t412)) else (some false))))) = some r := by rw [if_neg (show ¬ (false = true) by decide)] at H; exact H
                          clear H
                          have H := H1
                          clear H1
                          replace H := Option.bind_eq_some_iff.mp H
                          obtain ⟨t409, A390, H⟩ := H
                          replace H : (if t409 = true then ((lathelaw02_works.f).bind fun t410 => (some t410)) else ((lathelaw02_least.f t405 t406).bind fun t411 => (if t411 = true then ((lathelaw02_works.f).bind fun t412 => (some t412)) else (some false)))) = some r := H
                          have A39 := Aside0.mk A390
                          clear A390
                          by_cases c40 : t409 = true
                          · subst c40
                            have H1 : ((lathelaw02_works.f).bind fun t410 => (some t410)) = some r := by rw [if_pos rfl] at H; exact H
                            clear H
                            have H := H1
                            clear H1
                            replace H := Option.bind_eq_some_iff.mp H
                            obtain ⟨t410, A410, H⟩ := H
                            replace H : (some t410) = some r := H
                            have A41 := Aside0.mk A410
                            clear A410
                            obtain rfl := Option.some.inj H
                            go_wp2_with (first | ((with_reducible refine gate_callee (f := 60) rfl ?_); refine goesL_ (some 68) rfl rfl Try.func60 (by kernel_rfl) rfl #[.int .u32 x0_10] rfl (by (try simp only [List.map_toArray, List.map_cons, List.map_nil]); first | done | rfl | (simp only [List.length_drop, List.length_take]; rfl)) ?_; (with_reducible refine (float_Sqrt.calls x0_10 t405 _ A34.out).mono ?_); rintro e w' ⟨rfl, ⟨nd, rfl⟩⟩; refine ⟨_, rfl, ?_⟩) | ((with_reducible refine gate_callee (f := 60) rfl ?_); refine goesL_ (some 70) rfl rfl Try.func60 (by kernel_rfl) rfl #[.int .u32 x1_10] rfl (by (try simp only [List.map_toArray, List.map_cons, List.map_nil]); first | done | rfl | (simp only [List.length_drop, List.length_take]; rfl)) ?_; (with_reducible refine (float_Sqrt.calls x1_10 t406 _ A35.out).mono ?_); rintro e w' ⟨rfl, ⟨nd, rfl⟩⟩; refine ⟨_, rfl, ?_⟩) | ((with_reducible refine gate_callee (f := 66) rfl ?_); refine goesL_ (some 72) rfl rfl Try.func66 (by kernel_rfl) rfl #[.int .u32 t405] rfl (by (try simp only [List.map_toArray, List.map_cons, List.map_nil]); first | done | rfl | (simp only [List.length_drop, List.length_take]; rfl)) ?_; (with_reducible refine (lathelaw02_nan.calls t405 false _ A36.out).mono ?_); rintro e w' ⟨rfl, ⟨nd, rfl⟩⟩; refine ⟨_, rfl, ?_⟩) | (go_at_call 66; (with_reducible refine (lathelaw02_nan.calls t406 true _ A39.out).mono ?_); clear A39; rintro e w' ⟨rfl, ⟨nd, rfl⟩⟩) | (go_at_call 50; (with_reducible refine (lathelaw02_works.calls  t410 _ A41.out).mono ?_); clear A41; rintro e w' ⟨rfl, ⟨nd, rfl⟩⟩))
                            go_ret
                            exact ⟨by first | rfl | (simp; done) | (simp [*]; done), by repeat (first | exact Drawn0.refl _ | apply Drawn0.step)⟩
                          · replace c40 := Bool.eq_false_iff.mpr c40
                            subst c40
                            have H1 : ((lathelaw02_least.f t405 t406).bind fun t411 => (if t411 = true then ((lathelaw02_works.f).bind fun t412 => (some t412)) else (some false))) = some r := by rw [if_neg (show ¬ (false = true) by decide)] at H; exact H
                            clear H
                            have H := H1
                            clear H1
                            replace H := Option.bind_eq_some_iff.mp H
                            obtain ⟨t411, A420, H⟩ := H
                            replace H : (if t411 = true then ((lathelaw02_works.f).bind fun t412 => (some t412)) else (some false)) = some r := H
                            have A42 := Aside0.mk A420
                            clear A420
                            by_cases c43 : t411 = true
                            · subst c43
                              have H1 : ((lathelaw02_works.f).bind fun t412 => (some t412)) = some r := by rw [if_pos rfl] at H; exact H
                              clear H
                              have H := H1
                              clear H1
                              replace H := Option.bind_eq_some_iff.mp H
                              obtain ⟨t412, A440, H⟩ := H
                              replace H : (some t412) = some r := H
                              have A44 := Aside0.mk A440
                              clear A440
                              obtain rfl := Option.some.inj H
                              go_wp2_with (first | ((with_reducible refine gate_callee (f := 60) rfl ?_); refine goesL_ (some 68) rfl rfl Try.func60 (by kernel_rfl) rfl #[.int .u32 x0_10] rfl (by (try simp only [List.map_toArray, List.map_cons, List.map_nil]); first | done | rfl | (simp only [List.length_drop, List.length_take]; rfl)) ?_; (with_reducible refine (float_Sqrt.calls x0_10 t405 _ A34.out).mono ?_); rintro e w' ⟨rfl, ⟨nd, rfl⟩⟩; refine ⟨_, rfl, ?_⟩) | ((with_reducible refine gate_callee (f := 60) rfl ?_); refine goesL_ (some 70) rfl rfl Try.func60 (by kernel_rfl) rfl #[.int .u32 x1_10] rfl (by (try simp only [List.map_toArray, List.map_cons, List.map_nil]); first | done | rfl | (simp only [List.length_drop, List.length_take]; rfl)) ?_; (with_reducible refine (float_Sqrt.calls x1_10 t406 _ A35.out).mono ?_); rintro e w' ⟨rfl, ⟨nd, rfl⟩⟩; refine ⟨_, rfl, ?_⟩) | ((with_reducible refine gate_callee (f := 66) rfl ?_); refine goesL_ (some 72) rfl rfl Try.func66 (by kernel_rfl) rfl #[.int .u32 t405] rfl (by (try simp only [List.map_toArray, List.map_cons, List.map_nil]); first | done | rfl | (simp only [List.length_drop, List.length_take]; rfl)) ?_; (with_reducible refine (lathelaw02_nan.calls t405 false _ A36.out).mono ?_); rintro e w' ⟨rfl, ⟨nd, rfl⟩⟩; refine ⟨_, rfl, ?_⟩) | (go_at_call 66; (with_reducible refine (lathelaw02_nan.calls t406 false _ A39.out).mono ?_); clear A39; rintro e w' ⟨rfl, ⟨nd, rfl⟩⟩) | (go_at_call 68; (with_reducible refine (lathelaw02_least.calls t405 t406 true _ A42.out).mono ?_); clear A42; rintro e w' ⟨rfl, ⟨nd, rfl⟩⟩) | (go_at_call 50; (with_reducible refine (lathelaw02_works.calls  t412 _ A44.out).mono ?_); clear A44; rintro e w' ⟨rfl, ⟨nd, rfl⟩⟩))
                              go_ret
                              exact ⟨by first | rfl | (simp; done) | (simp [*]; done), by repeat (first | exact Drawn0.refl _ | apply Drawn0.step)⟩
                            · replace c43 := Bool.eq_false_iff.mpr c43
                              subst c43
                              have H1 : (some false) = some r := by rw [if_neg (show ¬ (false = true) by decide)] at H; exact H
                              clear H
                              have H := H1
                              clear H1
                              obtain rfl := Option.some.inj H
                              go_wp2_with (first | ((with_reducible refine gate_callee (f := 60) rfl ?_); refine goesL_ (some 68) rfl rfl Try.func60 (by kernel_rfl) rfl #[.int .u32 x0_10] rfl (by (try simp only [List.map_toArray, List.map_cons, List.map_nil]); first | done | rfl | (simp only [List.length_drop, List.length_take]; rfl)) ?_; (with_reducible refine (float_Sqrt.calls x0_10 t405 _ A34.out).mono ?_); rintro e w' ⟨rfl, ⟨nd, rfl⟩⟩; refine ⟨_, rfl, ?_⟩) | ((with_reducible refine gate_callee (f := 60) rfl ?_); refine goesL_ (some 70) rfl rfl Try.func60 (by kernel_rfl) rfl #[.int .u32 x1_10] rfl (by (try simp only [List.map_toArray, List.map_cons, List.map_nil]); first | done | rfl | (simp only [List.length_drop, List.length_take]; rfl)) ?_; (with_reducible refine (float_Sqrt.calls x1_10 t406 _ A35.out).mono ?_); rintro e w' ⟨rfl, ⟨nd, rfl⟩⟩; refine ⟨_, rfl, ?_⟩) | ((with_reducible refine gate_callee (f := 66) rfl ?_); refine goesL_ (some 72) rfl rfl Try.func66 (by kernel_rfl) rfl #[.int .u32 t405] rfl (by (try simp only [List.map_toArray, List.map_cons, List.map_nil]); first | done | rfl | (simp only [List.length_drop, List.length_take]; rfl)) ?_; (with_reducible refine (lathelaw02_nan.calls t405 false _ A36.out).mono ?_); rintro e w' ⟨rfl, ⟨nd, rfl⟩⟩; refine ⟨_, rfl, ?_⟩) | (go_at_call 66; (with_reducible refine (lathelaw02_nan.calls t406 false _ A39.out).mono ?_); clear A39; rintro e w' ⟨rfl, ⟨nd, rfl⟩⟩) | (go_at_call 68; (with_reducible refine (lathelaw02_least.calls t405 t406 false _ A42.out).mono ?_); clear A42; rintro e w' ⟨rfl, ⟨nd, rfl⟩⟩))
                              go_ret
                              exact ⟨by first | rfl | (simp; done) | (simp [*]; done), by repeat (first | exact Drawn0.refl _ | apply Drawn0.step)⟩

/-- THE ONE PURE STATEMENT of lathelaw02_FloatKeeps: yours. -/
def lathelaw02_FloatKeeps.Pure : Prop := ∀ (a0 : Int) (a1 : Int) (a2 : Int), (Lit.int .u32 a0).wf = true → (Lit.int .u32 a1).wf = true → (Lit.int .u32 a2).wf = true → ∃ k, lathelaw02_FloatKeeps.f k a0 a1 a2 = some true
theorem lathelaw02_FloatKeeps.walk (P : lathelaw02_FloatKeeps.Pure) (a0 : Int) (a1 : Int) (a2 : Int) (w : World) (w0 : (Lit.int .u32 a0).wf = true) (w1 : (Lit.int .u32 a1).wf = true) (w2 : (Lit.int .u32 a2).wf = true) :
    Calls Try.prog 16 #[.int .u32 a0, .int .u32 a1, .int .u32 a2] w fun e w' => e = .returned (.bool true) ∧ Below w.heap.size w w' := by
  obtain ⟨k, h⟩ := P a0 a1 a2 w0 w1 w2
  refine (lathelaw02_FloatKeeps.calls k a0 a1 a2 true w h).mono ?_
  rintro e w' ⟨rfl, hd⟩
  exact ⟨rfl, hd.below⟩

end Go.Proofs.Ytcegmbplgghjnaa.PF
