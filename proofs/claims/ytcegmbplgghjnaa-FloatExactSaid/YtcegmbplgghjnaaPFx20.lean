/- The functions of the program that a statement reaches, as plain functions, and that the machine's calls do what these say. No condition. (Printed by a program.) -/
import Derived.Test.YtcegmbplgghjnaaPFx0
import Derived.Test.YtcegmbplgghjnaaPFx4
import Derived.Test.YtcegmbplgghjnaaPFx7
import Derived.Test.YtcegmbplgghjnaaPFx11
import Derived.Test.YtcegmbplgghjnaaPFx16
namespace Go.Proofs.Ytcegmbplgghjnaa.PF
open Go.RowKit Go.Proofs.YtcegmbplgghjnaaW.PrintWords Go.Proofs.YtcegmbplgghjnaaW.PrintLast Go.Proofs.YtcegmbplgghjnaaW.PrintMore
attribute [local go_sem] max2_int min2_int max_two min_two max_three min_three max_four min_four   -- for this text's walks alone
set_option linter.unusedVariables false
set_option linter.unusedSimpArgs false

/-! ### lathelaw02_FloatKnuth: function 17 -/
mutual
def lathelaw02_FloatKnuth.j0 : Nat → Int → Int → Int → Bool → Option (Bool)
  | 0, _, _, _, _ => none
  | k + 1, x0, x1, x5, x32 => if x32 = true then ((lathelaw02_works.f).bind fun t468 => (some t468)) else ((float_Sub.f x5 x0).bind fun t469 => ((float_Sub.f x5 t469).bind fun t470 => ((float_Sub.f x0 t470).bind fun t471 => ((float_Sub.f x1 t469).bind fun t472 => ((float_Add.f t471 t472).bind fun t473 => ((float_Finite.f t469).bind fun t474 => (if t474 = true then ((float_Finite.f t473).bind fun t475 => (lathelaw02_FloatKnuth.j1 k x0 x1 x5 t473 (!t475))) else (lathelaw02_FloatKnuth.j1 k x0 x1 x5 t473 true))))))))
def lathelaw02_FloatKnuth.j1 : Nat → Int → Int → Int → Int → Bool → Option (Bool)
  | 0, _, _, _, _, _ => none
  | k + 1, x0, x1, x5, x7, x53 => if x53 = true then ((lathelaw02_works.f).bind fun t476 => (some t476)) else ((lathelaw02_parts.f x0).bind fun bt477 => ((lathelaw02_parts.f x1).bind fun bt479 => ((lathelaw02_parts.f x5).bind fun bt481 => ((lathelaw02_parts.f x7).bind fun bt483 => (if bt483.1 = 0 then (lathelaw02_FloatKnuth.j2 k bt477.1 bt477.2 bt479.1 bt479.2 bt481.1 bt481.2 bt483.1 (mn (mn bt477.2 bt479.2) bt481.2) (mn (mn bt477.2 bt479.2) bt481.2)) else (lathelaw02_FloatKnuth.j2 k bt477.1 bt477.2 bt479.1 bt479.2 bt481.1 bt481.2 bt483.1 bt483.2 (mn (mn (mn bt477.2 bt479.2) bt481.2) bt483.2)))))))
def lathelaw02_FloatKnuth.j2 : Nat → Int → Int → Int → Int → Int → Int → Int → Int → Int → Option (Bool)
  | 0, _, _, _, _, _, _, _, _, _ => none
  | k + 1, x8, x9, x10, x11, x12, x13, x14, x15, x16 => if (wrap64 ((mx (mx (mx x9 x11) x13) x15) - x16)) > 36 then ((lathelaw02_works.f).bind fun t485 => (some t485)) else (if 0 ≤ (IntKind.u64.wrap (wrap64 (x9 - x16))) then (if 0 ≤ (IntKind.u64.wrap (wrap64 (x11 - x16))) then (if 0 ≤ (IntKind.u64.wrap (wrap64 (x13 - x16))) then (if 0 ≤ (IntKind.u64.wrap (wrap64 (x15 - x16))) then (if (wrap64 ((shl .i64 x8 (IntKind.u64.wrap (wrap64 (x9 - x16)))) + (shl .i64 x10 (IntKind.u64.wrap (wrap64 (x11 - x16)))))) = (wrap64 ((shl .i64 x12 (IntKind.u64.wrap (wrap64 (x13 - x16)))) + (shl .i64 x14 (IntKind.u64.wrap (wrap64 (x15 - x16)))))) then ((lathelaw02_works.f).bind fun t486 => (some t486)) else (some false)) else (none)) else (none)) else (none)) else (none))
end
def lathelaw02_FloatKnuth.f (k : Nat) (a0 : Int) (a1 : Int) : Option (Bool) := (float_Add.f a0 a1).bind fun t464 => ((float_Finite.f a0).bind fun t465 => (if t465 = true then ((float_Finite.f a1).bind fun t466 => (if t466 = true then ((float_Finite.f t464).bind fun t467 => (lathelaw02_FloatKnuth.j0 k a0 a1 t464 (!t467))) else (lathelaw02_FloatKnuth.j0 k a0 a1 t464 true))) else (lathelaw02_FloatKnuth.j0 k a0 a1 t464 true)))
theorem lathelaw02_FloatKnuth.mono_l : ∀ k, (∀ y0 y1 y2 y3, LeO (lathelaw02_FloatKnuth.j0 k y0 y1 y2 y3) (lathelaw02_FloatKnuth.j0 (k + 1) y0 y1 y2 y3)) ∧ (∀ y0 y1 y2 y3 y4, LeO (lathelaw02_FloatKnuth.j1 k y0 y1 y2 y3 y4) (lathelaw02_FloatKnuth.j1 (k + 1) y0 y1 y2 y3 y4)) ∧ (∀ y0 y1 y2 y3 y4 y5 y6 y7 y8, LeO (lathelaw02_FloatKnuth.j2 k y0 y1 y2 y3 y4 y5 y6 y7 y8) (lathelaw02_FloatKnuth.j2 (k + 1) y0 y1 y2 y3 y4 y5 y6 y7 y8))
  | 0 => ⟨fun _ _ _ _ r h => by simp [lathelaw02_FloatKnuth.j0] at h, fun _ _ _ _ _ r h => by simp [lathelaw02_FloatKnuth.j1] at h, fun _ _ _ _ _ _ _ _ _ r h => by simp [lathelaw02_FloatKnuth.j2] at h⟩
  | k + 1 => by
    obtain ⟨ih0, ih1, ih2⟩ := lathelaw02_FloatKnuth.mono_l k
    refine ⟨?_, ?_, ?_⟩
    · intro y0 y1 y2 y3
      unfold lathelaw02_FloatKnuth.j0
      repeat' first
      | (with_reducible exact ih0 _ _ _ _)
      | (with_reducible exact ih1 _ _ _ _ _)
      | (with_reducible exact ih2 _ _ _ _ _ _ _ _ _)
      | (with_reducible exact LeO.refl _)
      | (with_reducible exact LeO.none _)
      | (with_reducible refine LeO.ite ?_ ?_)
      | (with_reducible refine LeO.bind ?_ (fun _ => ?_))
      | exact ih0 _ _ _ _
      | exact ih1 _ _ _ _ _
      | exact ih2 _ _ _ _ _ _ _ _ _
      | exact LeO.none _
      | refine LeO.ite ?_ ?_
      | refine LeO.bind ?_ (fun _ => ?_)
    · intro y0 y1 y2 y3 y4
      unfold lathelaw02_FloatKnuth.j1
      repeat' first
      | (with_reducible exact ih0 _ _ _ _)
      | (with_reducible exact ih1 _ _ _ _ _)
      | (with_reducible exact ih2 _ _ _ _ _ _ _ _ _)
      | (with_reducible exact LeO.refl _)
      | (with_reducible exact LeO.none _)
      | (with_reducible refine LeO.ite ?_ ?_)
      | (with_reducible refine LeO.bind ?_ (fun _ => ?_))
      | exact ih0 _ _ _ _
      | exact ih1 _ _ _ _ _
      | exact ih2 _ _ _ _ _ _ _ _ _
      | exact LeO.none _
      | refine LeO.ite ?_ ?_
      | refine LeO.bind ?_ (fun _ => ?_)
    · intro y0 y1 y2 y3 y4 y5 y6 y7 y8
      unfold lathelaw02_FloatKnuth.j2
      repeat' first
      | (with_reducible exact ih0 _ _ _ _)
      | (with_reducible exact ih1 _ _ _ _ _)
      | (with_reducible exact ih2 _ _ _ _ _ _ _ _ _)
      | (with_reducible exact LeO.refl _)
      | (with_reducible exact LeO.none _)
      | (with_reducible refine LeO.ite ?_ ?_)
      | (with_reducible refine LeO.bind ?_ (fun _ => ?_))
      | exact ih0 _ _ _ _
      | exact ih1 _ _ _ _ _
      | exact ih2 _ _ _ _ _ _ _ _ _
      | exact LeO.none _
      | refine LeO.ite ?_ ?_
      | refine LeO.bind ?_ (fun _ => ?_)
theorem lathelaw02_FloatKnuth.mono : ∀ a0 a1 k, LeO (lathelaw02_FloatKnuth.f k a0 a1) (lathelaw02_FloatKnuth.f (k + 1) a0 a1) := by
  intro a0 a1 k
  obtain ⟨ih0, ih1, ih2⟩ := lathelaw02_FloatKnuth.mono_l k
  unfold lathelaw02_FloatKnuth.f
  repeat' first
      | (with_reducible exact ih0 _ _ _ _)
      | (with_reducible exact ih1 _ _ _ _ _)
      | (with_reducible exact ih2 _ _ _ _ _ _ _ _ _)
      | (with_reducible exact LeO.refl _)
      | (with_reducible exact LeO.none _)
      | (with_reducible refine LeO.ite ?_ ?_)
      | (with_reducible refine LeO.bind ?_ (fun _ => ?_))
      | exact ih0 _ _ _ _
      | exact ih1 _ _ _ _ _
      | exact ih2 _ _ _ _ _ _ _ _ _
      | exact LeO.none _
      | refine LeO.ite ?_ ?_
      | refine LeO.bind ?_ (fun _ => ?_)
set_option maxHeartbeats 8000000 in
set_option maxRecDepth 100000 in
theorem lathelaw02_FloatKnuth.calls (k : Nat) (a0 : Int) (a1 : Int) (r : Bool) (w : World) (h : lathelaw02_FloatKnuth.f k a0 a1 = some r) :
    Calls Try.prog 17 #[.int .u32 a0, .int .u32 a1] w fun e w' => e = .returned (.bool r) ∧ Below w.heap.size w w' := by
  have HB := Aside0.mk (Below.refl w.heap.size w)
  have H : ((float_Add.f a0 a1).bind fun t464 => ((float_Finite.f a0).bind fun t465 => (if t465 = true then ((float_Finite.f a1).bind fun t466 => (if t466 = true then ((float_Finite.f t464).bind fun t467 => (lathelaw02_FloatKnuth.j0 k a0 a1 t464 (!t467))) else (lathelaw02_FloatKnuth.j0 k a0 a1 t464 true))) else (lathelaw02_FloatKnuth.j0 k a0 a1 t464 true)))) = some r := h
  clear h
  replace H := Option.bind_eq_some_iff.mp H
  obtain ⟨t464, A30, H⟩ := H
  replace H : ((float_Finite.f a0).bind fun t465 => (if t465 = true then ((float_Finite.f a1).bind fun t466 => (if t466 = true then ((float_Finite.f t464).bind fun t467 => (lathelaw02_FloatKnuth.j0 k a0 a1 t464 (!t467))) else (lathelaw02_FloatKnuth.j0 k a0 a1 t464 true))) else (lathelaw02_FloatKnuth.j0 k a0 a1 t464 true))) = some r := H
  have A3 := Aside0.mk A30
  clear A30
  have HC4 := Aside0.mk H
  clear H
  go_enter Try.func17, Try.ntmps17
  go_upto_region 2 with (first | ((with_reducible refine gate_callee (f := 53) rfl ?_); refine goesL_ (some 19) rfl rfl Try.func53 (by kernel_rfl) rfl #[.int .u32 a0, .int .u32 a1] rfl (by (try simp only [List.map_toArray, List.map_cons, List.map_nil]); first | done | rfl | (simp only [List.length_drop, List.length_take]; rfl)) ?_; (with_reducible refine (float_Add.calls a0 a1 t464 _ A3.out).mono ?_); rintro e w' ⟨rfl, ⟨nd, rfl⟩⟩; refine ⟨_, rfl, ?_⟩))
  (try simp only [Act.put, List.setIfInBounds_toArray, List.set_cons_zero, List.set_cons_succ])
  go_cut [32] (fun v32 wc => ∃ (kq : Nat) (x32_3 : Bool), v32 = .bool x32_3 ∧ Aside0 (lathelaw02_FloatKnuth.j0 kq a0 a1 t464 x32_3 = some r) ∧ Aside0 (kq ≤ k) ∧ Aside0 (Below w.heap.size w wc))
  case first =>
    have H := HC4.out
    clear HC4
    replace H := Option.bind_eq_some_iff.mp H
    obtain ⟨t465, A50, H⟩ := H
    replace H : (if t465 = true then ((float_Finite.f a1).bind fun t466 => (if t466 = true then ((float_Finite.f t464).bind fun t467 => (lathelaw02_FloatKnuth.j0 k a0 a1 t464 (!t467))) else (lathelaw02_FloatKnuth.j0 k a0 a1 t464 true))) else (lathelaw02_FloatKnuth.j0 k a0 a1 t464 true)) = some r := H
    have A5 := Aside0.mk A50
    clear A50
    by_cases c6 : t465 = true
    · subst c6
      have H1 : ((float_Finite.f a1).bind fun t466 => (if t466 = true then ((float_Finite.f t464).bind fun t467 => (lathelaw02_FloatKnuth.j0 k a0 a1 t464 (!t467))) else (lathelaw02_FloatKnuth.j0 k a0 a1 t464 true))) = some r := by rw [if_pos rfl] at H; exact H
      clear H
      have H := H1
      clear H1
      replace H := Option.bind_eq_some_iff.mp H
      obtain ⟨t466, A70, H⟩ := H
      replace H : (if t466 = true then ((float_Finite.f t464).bind fun t467 => (lathelaw02_FloatKnuth.j0 k a0 a1 t464 (!t467))) else (lathelaw02_FloatKnuth.j0 k a0 a1 t464 true)) = some r := H
      have A7 := Aside0.mk A70
      clear A70
      by_cases c8 : t466 = true
      · subst c8
        have H1 : ((float_Finite.f t464).bind fun t467 => (lathelaw02_FloatKnuth.j0 k a0 a1 t464 (!t467))) = some r := by rw [if_pos rfl] at H; exact H
        clear H
        have H := H1
        clear H1
        replace H := Option.bind_eq_some_iff.mp H
        obtain ⟨t467, A90, H⟩ := H
        replace H : (lathelaw02_FloatKnuth.j0 k a0 a1 t464 (!t467)) = some r := H
        have A9 := Aside0.mk A90
        clear A90
        have H' := Aside0.mk H
        clear H
        go_wp2_with (first | ((with_reducible refine gate_callee (f := 58) rfl ?_); refine goesL_ (some 21) rfl rfl Try.func58 (by kernel_rfl) rfl #[.int .u32 a0] rfl (by (try simp only [List.map_toArray, List.map_cons, List.map_nil]); first | done | rfl | (simp only [List.length_drop, List.length_take]; rfl)) ?_; (with_reducible refine (float_Finite.calls a0 true _ A5.out).mono ?_); rintro e w' ⟨rfl, ⟨nd, rfl⟩⟩; refine ⟨_, rfl, ?_⟩) | (go_at_call 58; (with_reducible refine (float_Finite.calls a1 true _ A7.out).mono ?_); clear A7; rintro e w' ⟨rfl, ⟨nd, rfl⟩⟩) | (go_at_call 58; (with_reducible refine (float_Finite.calls t464 t467 _ A9.out).mono ?_); clear A9; rintro e w' ⟨rfl, ⟨nd, rfl⟩⟩))
        go_meet
        case rel => exact ⟨_, (!t467), (by first | rfl | (simp; done) | (simp [*]; done)), H', ⟨by first | omega | exact Nat.le_refl _⟩, ⟨by repeat (first | (with_reducible first | exact HB.out | apply below_alloc | apply pw_below_drewN | apply below_drew1) | exact HB.out)⟩⟩
      · replace c8 := Bool.eq_false_iff.mpr c8
        subst c8
        have H1 : (lathelaw02_FloatKnuth.j0 k a0 a1 t464 true) = some r := by rw [if_neg (show ¬ (false = true) by decide)] at H; exact H
        clear H
        have H := H1
        clear H1
        have H' := Aside0.mk H
        clear H
        go_wp2_with (first | ((with_reducible refine gate_callee (f := 58) rfl ?_); refine goesL_ (some 21) rfl rfl Try.func58 (by kernel_rfl) rfl #[.int .u32 a0] rfl (by (try simp only [List.map_toArray, List.map_cons, List.map_nil]); first | done | rfl | (simp only [List.length_drop, List.length_take]; rfl)) ?_; (with_reducible refine (float_Finite.calls a0 true _ A5.out).mono ?_); rintro e w' ⟨rfl, ⟨nd, rfl⟩⟩; refine ⟨_, rfl, ?_⟩) | (go_at_call 58; (with_reducible refine (float_Finite.calls a1 false _ A7.out).mono ?_); clear A7; rintro e w' ⟨rfl, ⟨nd, rfl⟩⟩))
        go_meet
        case rel => exact ⟨_, (true), (by first | rfl | (simp; done) | (simp [*]; done)), H', ⟨by first | omega | exact Nat.le_refl _⟩, ⟨by repeat (first | (with_reducible first | exact HB.out | apply below_alloc | apply pw_below_drewN | apply below_drew1) | exact HB.out)⟩⟩
    · replace c6 := Bool.eq_false_iff.mpr c6
      subst c6
      have H1 : (lathelaw02_FloatKnuth.j0 k a0 a1 t464 true) = some r := by rw [if_neg (show ¬ (false = true) by decide)] at H; exact H
      clear H
      have H := H1
      clear H1
      have H' := Aside0.mk H
      clear H
      go_wp2_with (first | ((with_reducible refine gate_callee (f := 58) rfl ?_); refine goesL_ (some 21) rfl rfl Try.func58 (by kernel_rfl) rfl #[.int .u32 a0] rfl (by (try simp only [List.map_toArray, List.map_cons, List.map_nil]); first | done | rfl | (simp only [List.length_drop, List.length_take]; rfl)) ?_; (with_reducible refine (float_Finite.calls a0 false _ A5.out).mono ?_); rintro e w' ⟨rfl, ⟨nd, rfl⟩⟩; refine ⟨_, rfl, ?_⟩))
      go_meet
      case rel => exact ⟨_, (true), (by first | rfl | (simp; done) | (simp [*]; done)), H', ⟨by first | omega | exact Nat.le_refl _⟩, ⟨by repeat (first | (with_reducible first | exact HB.out | apply below_alloc | apply pw_below_drewN | apply below_drew1) | exact HB.out)⟩⟩
  case rest =>
    clear HC4
    try clear c1
    try clear p2
    try clear c5
    try clear c6
    try clear c8
    obtain ⟨kq, x32_3, rfl, HA, HJ3, HB⟩ := hcut
    cases kq with
    | zero => exact absurd HA.out (by simp [lathelaw02_FloatKnuth.j0])
    | succ kj3 =>
      have H := HA.out
      clear HA
      simp only [lathelaw02_FloatKnuth.j0] at H
      by_cases c10 : x32_3 = true
      · subst c10
        have H1 : ((lathelaw02_works.f).bind fun t468 => (some t468)) = some r := by rw [if_pos rfl] at H; exact H
        clear H
        have H := H1
        clear H1
        replace H := Option.bind_eq_some_iff.mp H
        obtain ⟨t468, A110, H⟩ := H
        replace H : (some t468) = some r := H
        have A11 := Aside0.mk A110
        clear A110
        obtain rfl := Option.some.inj H
        go_wp2_with (first | ((with_reducible refine gate_callee (f := 50) rfl ?_); refine goesL_ (some 33) rfl rfl Try.func50 (by kernel_rfl) rfl #[] rfl (by (try simp only [List.map_toArray, List.map_cons, List.map_nil]); first | done | rfl | (simp only [List.length_drop, List.length_take]; rfl)) ?_; (with_reducible refine (lathelaw02_works.calls  t468 _ A11.out).mono ?_); rintro e w' ⟨rfl, ⟨nd, rfl⟩⟩; refine ⟨_, rfl, ?_⟩))
        go_ret
        exact ⟨by first | rfl | (simp [errW_none, errW_some] <;> rfl) | (simp [*, errW_none, errW_some] <;> rfl), by repeat (first | (with_reducible first | exact HB.out | apply below_alloc | apply pw_below_drewN | apply below_drew1) | exact HB.out)⟩
      · replace c10 := Bool.eq_false_iff.mpr c10
        subst c10
        have H1 : ((float_Sub.f t464 a0).bind fun t469 => ((float_Sub.f t464 t469).bind fun t470 => ((float_Sub.f a0 t470).bind fun t471 => ((float_Sub.f a1 t469).bind fun t472 => ((float_Add.f t471 t472).bind fun t473 => ((float_Finite.f t469).bind fun t474 => (if t474 = true then ((float_Finite.f t473).bind fun t475 => (lathelaw02_FloatKnuth.j1 kj3 a0 a1 t464 t473 (!t475))) else (lathelaw02_FloatKnuth.j1 kj3 a0 a1 t464 t473 true)))))))) = some r := by rw [if_neg (show ¬ (false = true) by decide)] at H; exact H
        clear H
        have H := H1
        clear H1
        replace H := Option.bind_eq_some_iff.mp H
        obtain ⟨t469, A120, H⟩ := H
        replace H : ((float_Sub.f t464 t469).bind fun t470 => ((float_Sub.f a0 t470).bind fun t471 => ((float_Sub.f a1 t469).bind fun t472 => ((float_Add.f t471 t472).bind fun t473 => ((float_Finite.f t469).bind fun t474 => (if t474 = true then ((float_Finite.f t473).bind fun t475 => (lathelaw02_FloatKnuth.j1 kj3 a0 a1 t464 t473 (!t475))) else (lathelaw02_FloatKnuth.j1 kj3 a0 a1 t464 t473 true))))))) = some r := H
        have A12 := Aside0.mk A120
        clear A120
        replace H := Option.bind_eq_some_iff.mp H
        obtain ⟨t470, A130, H⟩ := H
        replace H : ((float_Sub.f a0 t470).bind fun t471 => ((float_Sub.f a1 t469).bind fun t472 => ((float_Add.f t471 t472).bind fun t473 => ((float_Finite.f t469).bind fun t474 => (if t474 = true then ((float_Finite.f t473).bind fun t475 => (lathelaw02_FloatKnuth.j1 kj3 a0 a1 t464 t473 (!t475))) else (lathelaw02_FloatKnuth.j1 kj3 a0 a1 t464 t473 true)))))) = some r := H
        have A13 := Aside0.mk A130
        clear A130
        replace H := Option.bind_eq_some_iff.mp H
        obtain ⟨t471, A140, H⟩ := H
        replace H : ((float_Sub.f a1 t469).bind fun t472 => ((float_Add.f t471 t472).bind fun t473 => ((float_Finite.f t469).bind fun t474 => (if t474 = true then ((float_Finite.f t473).bind fun t475 => (lathelaw02_FloatKnuth.j1 kj3 a0 a1 t464 t473 (!t475))) else (lathelaw02_FloatKnuth.j1 kj3 a0 a1 t464 t473 true))))) = some r := H
        have A14 := Aside0.mk A140
        clear A140
        replace H := Option.bind_eq_some_iff.mp H
        obtain ⟨t472, A150, H⟩ := H
        replace H : ((float_Add.f t471 t472).bind fun t473 => ((float_Finite.f t469).bind fun t474 => (if t474 = true then ((float_Finite.f t473).bind fun t475 => (lathelaw02_FloatKnuth.j1 kj3 a0 a1 t464 t473 (!t475))) else (lathelaw02_FloatKnuth.j1 kj3 a0 a1 t464 t473 true)))) = some r := H
        have A15 := Aside0.mk A150
        clear A150
        replace H := Option.bind_eq_some_iff.mp H
        obtain ⟨t473, A160, H⟩ := H
        replace H : ((float_Finite.f t469).bind fun t474 => (if t474 = true then ((float_Finite.f t473).bind fun t475 => (lathelaw02_FloatKnuth.j1 kj3 a0 a1 t464 t473 (!t475))) else (lathelaw02_FloatKnuth.j1 kj3 a0 a1 t464 t473 true))) = some r := H
        have A16 := Aside0.mk A160
        clear A160
        have HC17 := Aside0.mk H
        clear H
        go_upto_region 6 with (first | ((with_reducible refine gate_callee (f := 55) rfl ?_); refine goesL_ (some 36) rfl rfl Try.func55 (by kernel_rfl) rfl #[.int .u32 t464, .int .u32 a0] rfl (by (try simp only [List.map_toArray, List.map_cons, List.map_nil]); first | done | rfl | (simp only [List.length_drop, List.length_take]; rfl)) ?_; (with_reducible refine (float_Sub.calls t464 a0 t469 _ A12.out).mono ?_); rintro e w' ⟨rfl, ⟨nd, rfl⟩⟩; refine ⟨_, rfl, ?_⟩) | ((with_reducible refine gate_callee (f := 55) rfl ?_); refine goesL_ (some 40) rfl rfl Try.func55 (by kernel_rfl) rfl #[.int .u32 t464, .int .u32 t469] rfl (by (try simp only [List.map_toArray, List.map_cons, List.map_nil]); first | done | rfl | (simp only [List.length_drop, List.length_take]; rfl)) ?_; (with_reducible refine (float_Sub.calls t464 t469 t470 _ A13.out).mono ?_); rintro e w' ⟨rfl, ⟨nd, rfl⟩⟩; refine ⟨_, rfl, ?_⟩) | ((with_reducible refine gate_callee (f := 55) rfl ?_); refine goesL_ (some 41) rfl rfl Try.func55 (by kernel_rfl) rfl #[.int .u32 a0, .int .u32 t470] rfl (by (try simp only [List.map_toArray, List.map_cons, List.map_nil]); first | done | rfl | (simp only [List.length_drop, List.length_take]; rfl)) ?_; (with_reducible refine (float_Sub.calls a0 t470 t471 _ A14.out).mono ?_); rintro e w' ⟨rfl, ⟨nd, rfl⟩⟩; refine ⟨_, rfl, ?_⟩) | ((with_reducible refine gate_callee (f := 55) rfl ?_); refine goesL_ (some 44) rfl rfl Try.func55 (by kernel_rfl) rfl #[.int .u32 a1, .int .u32 t469] rfl (by (try simp only [List.map_toArray, List.map_cons, List.map_nil]); first | done | rfl | (simp only [List.length_drop, List.length_take]; rfl)) ?_; (with_reducible refine (float_Sub.calls a1 t469 t472 _ A15.out).mono ?_); rintro e w' ⟨rfl, ⟨nd, rfl⟩⟩; refine ⟨_, rfl, ?_⟩) | ((with_reducible refine gate_callee (f := 53) rfl ?_); refine goesL_ (some 45) rfl rfl Try.func53 (by kernel_rfl) rfl #[.int .u32 t471, .int .u32 t472] rfl (by (try simp only [List.map_toArray, List.map_cons, List.map_nil]); first | done | rfl | (simp only [List.length_drop, List.length_take]; rfl)) ?_; (with_reducible refine (float_Add.calls t471 t472 t473 _ A16.out).mono ?_); rintro e w' ⟨rfl, ⟨nd, rfl⟩⟩; refine ⟨_, rfl, ?_⟩))
        (try simp only [Act.put, List.setIfInBounds_toArray, List.set_cons_zero, List.set_cons_succ])
        go_cut [53] (fun v53 wc => ∃ (kq : Nat) (x53_16 : Bool), v53 = .bool x53_16 ∧ Aside0 (lathelaw02_FloatKnuth.j1 kq a0 a1 t464 t473 x53_16 = some r) ∧ Aside0 (kq ≤ kj3) ∧ Aside0 (Below w.heap.size w wc))
        case first =>
          have H := HC17.out
          clear HC17
          replace H := Option.bind_eq_some_iff.mp H
          obtain ⟨t474, A180, H⟩ := H
          replace H : (if t474 = true then ((float_Finite.f t473).bind fun t475 => (lathelaw02_FloatKnuth.j1 kj3 a0 a1 t464 t473 (!t475))) else (lathelaw02_FloatKnuth.j1 kj3 a0 a1 t464 t473 true)) = some r := H
          have A18 := Aside0.mk A180
          clear A180
          by_cases c19 : t474 = true
          · subst c19
            have H1 : ((float_Finite.f t473).bind fun t475 => (lathelaw02_FloatKnuth.j1 kj3 a0 a1 t464 t473 (!t475))) = some r := by rw [if_pos rfl] at H; exact H
            clear H
            have H := H1
            clear H1
            replace H := Option.bind_eq_some_iff.mp H
            obtain ⟨t475, A200, H⟩ := H
            replace H : (lathelaw02_FloatKnuth.j1 kj3 a0 a1 t464 t473 (!t475)) = some r := H
            have A20 := Aside0.mk A200
            clear A200
            have H' := Aside0.mk H
            clear H
            go_wp2_with (first | ((with_reducible refine gate_callee (f := 58) rfl ?_); refine goesL_ (some 47) rfl rfl Try.func58 (by kernel_rfl) rfl #[.int .u32 t469] rfl (by (try simp only [List.map_toArray, List.map_cons, List.map_nil]); first | done | rfl | (simp only [List.length_drop, List.length_take]; rfl)) ?_; (with_reducible refine (float_Finite.calls t469 true _ A18.out).mono ?_); rintro e w' ⟨rfl, ⟨nd, rfl⟩⟩; refine ⟨_, rfl, ?_⟩) | (go_at_call 58; (with_reducible refine (float_Finite.calls t473 t475 _ A20.out).mono ?_); clear A20; rintro e w' ⟨rfl, ⟨nd, rfl⟩⟩))
            go_meet
            case rel => exact ⟨_, (!t475), (by first | rfl | (simp; done) | (simp [*]; done)), H', ⟨by have := HJ3.out; first | omega | exact Nat.le_refl _⟩, ⟨by repeat (first | (with_reducible first | exact HB.out | apply below_alloc | apply pw_below_drewN | apply below_drew1) | exact HB.out)⟩⟩
          · replace c19 := Bool.eq_false_iff.mpr c19
            subst c19
            have H1 : (lathelaw02_FloatKnuth.j1 kj3 a0 a1 t464 t473 true) = some r := by rw [if_neg (show ¬ (false = true) by decide)] at H; exact H
            clear H
            have H := H1
            clear H1
            have H' := Aside0.mk H
            clear H
            go_wp2_with (first | ((with_reducible refine gate_callee (f := 58) rfl ?_); refine goesL_ (some 47) rfl rfl Try.func58 (by kernel_rfl) rfl #[.int .u32 t469] rfl (by (try simp only [List.map_toArray, List.map_cons, List.map_nil]); first | done | rfl | (simp only [List.length_drop, List.length_take]; rfl)) ?_; (with_reducible refine (float_Finite.calls t469 false _ A18.out).mono ?_); rintro e w' ⟨rfl, ⟨nd, rfl⟩⟩; refine ⟨_, rfl, ?_⟩))
            go_meet
            case rel => exact ⟨_, (true), (by first | rfl | (simp; done) | (simp [*]; done)), H', ⟨by have := HJ3.out; first | omega | exact Nat.le_refl _⟩, ⟨by repeat (first | (with_reducible first | exact HB.out | apply below_alloc | apply pw_below_drewN | apply below_drew1) | exact HB.out)⟩⟩
        case rest =>
          clear HC17
          try clear c1
          try clear p2
          try clear c5
          try clear c6
          try clear c8
          try clear c10
          try clear c17
          try clear c19
          try clear p2
          obtain ⟨kq, x53_16, rfl, HA, HJ16, HB⟩ := hcut
          cases kq with
          | zero => exact absurd HA.out (by simp [lathelaw02_FloatKnuth.j1])
          | succ kj16 =>
            have H := HA.out
            clear HA
            simp only [lathelaw02_FloatKnuth.j1] at H
            by_cases c21 : x53_16 = true
            · subst c21
              have H1 : ((lathelaw02_works.f).bind fun t476 => (some t476)) = some r := by rw [if_pos rfl] at H; exact H
              clear H
              have H := H1
              clear H1
              replace H := Option.bind_eq_some_iff.mp H
              obtain ⟨t476, A220, H⟩ := H
              replace H : (some t476) = some r := H
              have A22 := Aside0.mk A220
              clear A220
              obtain rfl := Option.some.inj H
              go_wp2_with (first | ((with_reducible refine gate_callee (f := 50) rfl ?_); refine goesL_ (some 54) rfl rfl Try.func50 (by kernel_rfl) rfl #[] rfl (by (try simp only [List.map_toArray, List.map_cons, List.map_nil]); first | done | rfl | (simp only [List.length_drop, List.length_take]; rfl)) ?_; (with_reducible refine (lathelaw02_works.calls  t476 _ A22.out).mono ?_); rintro e w' ⟨rfl, ⟨nd, rfl⟩⟩; refine ⟨_, rfl, ?_⟩))
              go_ret
              exact ⟨by first | rfl | (simp [errW_none, errW_some] <;> rfl) | (simp [*, errW_none, errW_some] <;> rfl), by repeat (first | (with_reducible first | exact HB.out | apply below_alloc | apply pw_below_drewN | apply below_drew1) | exact HB.out)⟩
            · replace c21 := Bool.eq_false_iff.mpr c21
              subst c21
              have H1 : ((lathelaw02_parts.f a0).bind fun bt477 => ((lathelaw02_parts.f a1).bind fun bt479 => ((lathelaw02_parts.f t464).bind fun bt481 => ((lathelaw02_parts.f t473).bind fun bt483 => (if bt483.1 = 0 then (lathelaw02_FloatKnuth.j2 kj16 bt477.1 bt477.2 bt479.1 bt479.2 bt481.1 bt481.2 bt483.1 (mn (mn bt477.2 bt479.2) bt481.2) (mn (mn bt477.2 bt479.2) bt481.2)) else (lathelaw02_FloatKnuth.j2 kj16 bt477.1 bt477.2 bt479.1 bt479.2 bt481.1 bt481.2 bt483.1 bt483.2 (mn (mn (mn bt477.2 bt479.2) bt481.2) bt483.2))))))) = some r := by rw [if_neg (show ¬ (false = true) by decide)] at H; exact H
              clear H
              have H := H1
              clear H1
              replace H := Option.bind_eq_some_iff.mp H
              obtain ⟨⟨t477, t478⟩, A230, H⟩ := H
              replace H : ((lathelaw02_parts.f a1).bind fun bt479 => ((lathelaw02_parts.f t464).bind fun bt481 => ((lathelaw02_parts.f t473).bind fun bt483 => (if bt483.1 = 0 then (lathelaw02_FloatKnuth.j2 kj16 t477 t478 bt479.1 bt479.2 bt481.1 bt481.2 bt483.1 (mn (mn t478 bt479.2) bt481.2) (mn (mn t478 bt479.2) bt481.2)) else (lathelaw02_FloatKnuth.j2 kj16 t477 t478 bt479.1 bt479.2 bt481.1 bt481.2 bt483.1 bt483.2 (mn (mn (mn t478 bt479.2) bt481.2) bt483.2)))))) = some r := H
              have A23 := Aside0.mk A230
              clear A230
              replace H := Option.bind_eq_some_iff.mp H
              obtain ⟨⟨t479, t480⟩, A240, H⟩ := H
              replace H : ((lathelaw02_parts.f t464).bind fun bt481 => ((lathelaw02_parts.f t473).bind fun bt483 => (if bt483.1 = 0 then (lathelaw02_FloatKnuth.j2 kj16 t477 t478 t479 t480 bt481.1 bt481.2 bt483.1 (mn (mn t478 t480) bt481.2) (mn (mn t478 t480) bt481.2)) else (lathelaw02_FloatKnuth.j2 kj16 t477 t478 t479 t480 bt481.1 bt481.2 bt483.1 bt483.2 (mn (mn (mn t478 t480) bt481.2) bt483.2))))) = some r := H
              have A24 := Aside0.mk A240
              clear A240
              replace H := Option.bind_eq_some_iff.mp H
              obtain ⟨⟨t481, t482⟩, A250, H⟩ := H
              replace H : ((lathelaw02_parts.f t473).bind fun bt483 => (if bt483.1 = 0 then (lathelaw02_FloatKnuth.j2 kj16 t477 t478 t479 t480 t481 t482 bt483.1 (mn (mn t478 t480) t482) (mn (mn t478 t480) t482)) else (lathelaw02_FloatKnuth.j2 kj16 t477 t478 t479 t480 t481 t482 bt483.1 bt483.2 (mn (mn (mn t478 t480) t482) bt483.2)))) = some r := H
              have A25 := Aside0.mk A250
              clear A250
              replace H := Option.bind_eq_some_iff.mp H
              obtain ⟨⟨t483, t484⟩, A260, H⟩ := H
              replace H : (if t483 = 0 then (lathelaw02_FloatKnuth.j2 kj16 t477 t478 t479 t480 t481 t482 t483 (mn (mn t478 t480) t482) (mn (mn t478 t480) t482)) else (lathelaw02_FloatKnuth.j2 kj16 t477 t478 t479 t480 t481 t482 t483 t484 (mn (mn (mn t478 t480) t482) t484))) = some r := H
              have A26 := Aside0.mk A260
              clear A260
              obtain ⟨ji27, hji27⟩ : ∃ j_ : Int, (mn t478 t480) = j_ := ⟨_, rfl⟩
              replace H : (if t483 = 0 then (lathelaw02_FloatKnuth.j2 kj16 t477 t478 t479 t480 t481 t482 t483 (mn (ji27) t482) (mn (ji27) t482)) else (lathelaw02_FloatKnuth.j2 kj16 t477 t478 t479 t480 t481 t482 t483 t484 (mn (mn (ji27) t482) t484))) = some r := by first | (rw [hji27] at H; exact H) | (simp only [hji27] at H ⊢; exact H)
              (try rw [hji27] at A23)
              (try rw [hji27] at A24)
              (try rw [hji27] at A25)
              (try rw [hji27] at A26)
              have hji27_ : (if t480 < t478 then t480 else t478) = ji27 := hji27
              obtain ⟨ji28, hji28⟩ : ∃ j_ : Int, (mn (ji27) t482) = j_ := ⟨_, rfl⟩
              replace H : (if t483 = 0 then (lathelaw02_FloatKnuth.j2 kj16 t477 t478 t479 t480 t481 t482 t483 ji28 ji28) else (lathelaw02_FloatKnuth.j2 kj16 t477 t478 t479 t480 t481 t482 t483 t484 (mn (ji28) t484))) = some r := by first | (rw [hji28] at H; exact H) | (simp only [hji28] at H ⊢; exact H)
              (try rw [hji28] at A23)
              (try rw [hji28] at A24)
              (try rw [hji28] at A25)
              (try rw [hji28] at A26)
              have hji28_ : (if t482 < (ji27) then t482 else (ji27)) = ji28 := hji28
              obtain ⟨ji29, hji29⟩ : ∃ j_ : Int, (mn (ji28) t484) = j_ := ⟨_, rfl⟩
              replace H : (if t483 = 0 then (lathelaw02_FloatKnuth.j2 kj16 t477 t478 t479 t480 t481 t482 t483 ji28 ji28) else (lathelaw02_FloatKnuth.j2 kj16 t477 t478 t479 t480 t481 t482 t483 t484 ji29)) = some r := by first | (rw [hji29] at H; exact H) | (simp only [hji29] at H ⊢; exact H)
              (try rw [hji29] at A23)
              (try rw [hji29] at A24)
              (try rw [hji29] at A25)
              (try rw [hji29] at A26)
              have hji29_ : (if t484 < (ji28) then t484 else (ji28)) = ji29 := hji29
              have HC30 := Aside0.mk H
              clear H
              go_upto_if 81 with (first | ((with_reducible refine gate_callee (f := 57) rfl ?_); refine goesL_ (some 57) rfl rfl Try.func57 (by kernel_rfl) rfl #[.int .u32 a0] rfl (by (try simp only [List.map_toArray, List.map_cons, List.map_nil]); first | done | rfl | (simp only [List.length_drop, List.length_take]; rfl)) ?_; (with_reducible refine (lathelaw02_parts.calls a0 t477 t478 _ A23.out).mono ?_); rintro e w31 ⟨rfl, hb⟩; refine ⟨_, rfl, ?_⟩; have n0_ := Aside0.mk (below_step (by repeat (first | (with_reducible first | exact HB.out | apply below_alloc | apply pw_below_drewN | apply below_drew1) | exact HB.out)) hb); clear HB; have HB := n0_; clear n0_; (try clear hb); (try clear hb2); (try clear hk); (try clear hi)) | ((with_reducible refine gate_callee (f := 57) rfl ?_); refine goesL_ (some 62) rfl rfl Try.func57 (by kernel_rfl) rfl #[.int .u32 a1] rfl (by (try simp only [List.map_toArray, List.map_cons, List.map_nil]); first | done | rfl | (simp only [List.length_drop, List.length_take]; rfl)) ?_; (with_reducible refine (lathelaw02_parts.calls a1 t479 t480 _ A24.out).mono ?_); rintro e w32 ⟨rfl, hb⟩; refine ⟨_, rfl, ?_⟩; have n0_ := Aside0.mk (below_step (by repeat (first | (with_reducible first | exact HB.out | apply below_alloc | apply pw_below_drewN | apply below_drew1) | exact HB.out)) hb); clear HB; have HB := n0_; clear n0_; (try clear hb); (try clear hb2); (try clear hk); (try clear hi)) | ((with_reducible refine gate_callee (f := 57) rfl ?_); refine goesL_ (some 67) rfl rfl Try.func57 (by kernel_rfl) rfl #[.int .u32 t464] rfl (by (try simp only [List.map_toArray, List.map_cons, List.map_nil]); first | done | rfl | (simp only [List.length_drop, List.length_take]; rfl)) ?_; (with_reducible refine (lathelaw02_parts.calls t464 t481 t482 _ A25.out).mono ?_); rintro e w33 ⟨rfl, hb⟩; refine ⟨_, rfl, ?_⟩; have n0_ := Aside0.mk (below_step (by repeat (first | (with_reducible first | exact HB.out | apply below_alloc | apply pw_below_drewN | apply below_drew1) | exact HB.out)) hb); clear HB; have HB := n0_; clear n0_; (try clear hb); (try clear hb2); (try clear hk); (try clear hi)) | ((with_reducible refine gate_callee (f := 57) rfl ?_); refine goesL_ (some 72) rfl rfl Try.func57 (by kernel_rfl) rfl #[.int .u32 t473] rfl (by (try simp only [List.map_toArray, List.map_cons, List.map_nil]); first | done | rfl | (simp only [List.length_drop, List.length_take]; rfl)) ?_; (with_reducible refine (lathelaw02_parts.calls t473 t483 t484 _ A26.out).mono ?_); rintro e w34 ⟨rfl, hb⟩; refine ⟨_, rfl, ?_⟩; have n0_ := Aside0.mk (below_step (by repeat (first | (with_reducible first | exact HB.out | apply below_alloc | apply pw_below_drewN | apply below_drew1) | exact HB.out)) hb); clear HB; have HB := n0_; clear n0_; (try clear hb); (try clear hb2); (try clear hk); (try clear hi)))
              (try simp only [Act.put, List.setIfInBounds_toArray, List.set_cons_zero, List.set_cons_succ])
              go_cut [15, 16] (fun v15 v16 wc => ∃ (kq : Nat) (x15_29 : Int) (x16_29 : Int), v15 = .int .i64 x15_29 ∧ v16 = .int .i64 x16_29 ∧ Aside0 (lathelaw02_FloatKnuth.j2 kq t477 t478 t479 t480 t481 t482 t483 x15_29 x16_29 = some r) ∧ Aside0 (kq ≤ kj16) ∧ Aside0 (Below w.heap.size w wc))
              case first =>
                have H := HC30.out
                clear HC30
                by_cases c35 : t483 = 0
                · rw [if_pos c35] at H
                  have c35b0 : (t483 == 0) = true := beq_iff_eq.mpr c35
                  have c35b1 : (t483 != 0) = false := bne_eq_false_iff_eq.mpr c35
                  clear c35
                  (first | rw [c35b0] | (simp only [i64_w, i32_w]; rw [c35b0]) | skip)
                  have H' := Aside0.mk H
                  clear H
                  go_wp2
                  go_meet
                  case rel => exact ⟨_, (ji28), (ji28), (by first | rfl | (simp; done) | (simp only [← hji28] <;> (first | rfl | simp)) | (simp [*]; done)), (by first | rfl | (simp; done) | (simp only [← hji28] <;> (first | rfl | simp)) | (simp [*]; done)), H', ⟨by have := HJ3.out; have := HJ16.out; first | omega | exact Nat.le_refl _⟩, ⟨by repeat (first | (with_reducible first | exact HB.out | apply below_alloc | apply pw_below_drewN | apply below_drew1) | exact HB.out)⟩⟩
                · rw [if_neg c35] at H
                  have c35b0 : (t483 == 0) = false := beq_eq_false_iff_ne.mpr c35
                  have c35b1 : (t483 != 0) = true := bne_iff_ne.mpr c35
                  (first | rw [c35b0] | (simp only [i64_w, i32_w]; rw [c35b0]) | skip)
                  have H' := Aside0.mk H
                  clear H
                  go_wp2
                  go_meet
                  case rel => exact ⟨_, (t484), (ji29), (by first | rfl | (simp; done) | (simp [*]; done)), (by first | rfl | (simp; done) | (simp only [← hji29] <;> (first | rfl | simp)) | (simp [*]; done)), H', ⟨by have := HJ3.out; have := HJ16.out; first | omega | exact Nat.le_refl _⟩, ⟨by repeat (first | (with_reducible first | exact HB.out | apply below_alloc | apply pw_below_drewN | apply below_drew1) | exact HB.out)⟩⟩
              case rest =>
                clear HC30
                try clear c1
                try clear c2
                try clear p2
                try clear c3
                try clear c5
                try clear c6
                try clear c8
                try clear c10
                try clear c17
                try clear c19
                try clear c21
                try clear c35
                try clear c35b0
                try clear c35b1
                try clear c36
                try clear c36b0
                try clear c37
                try clear c37b0
                try clear p2
                obtain ⟨kq, x15_29, x16_29, rfl, rfl, HA, HJ29, HB⟩ := hcut
                cases kq with
                | zero => exact absurd HA.out (by simp [lathelaw02_FloatKnuth.j2])
                | succ kj29 =>
                  have H := HA.out
                  clear HA
                  simp only [lathelaw02_FloatKnuth.j2] at H
                  obtain ⟨ji38, hji38⟩ : ∃ j_ : Int, (mx t478 t480) = j_ := ⟨_, rfl⟩
                  replace H : (if (wrap64 ((mx (mx (ji38) t482) x15_29) - x16_29)) > 36 then ((lathelaw02_works.f).bind fun t485 => (some t485)) else (if 0 ≤ (IntKind.u64.wrap (wrap64 (t478 - x16_29))) then (if 0 ≤ (IntKind.u64.wrap (wrap64 (t480 - x16_29))) then (if 0 ≤ (IntKind.u64.wrap (wrap64 (t482 - x16_29))) then (if 0 ≤ (IntKind.u64.wrap (wrap64 (x15_29 - x16_29))) then (if (wrap64 ((shl .i64 t477 (IntKind.u64.wrap (wrap64 (t478 - x16_29)))) + (shl .i64 t479 (IntKind.u64.wrap (wrap64 (t480 - x16_29)))))) = (wrap64 ((shl .i64 t481 (IntKind.u64.wrap (wrap64 (t482 - x16_29)))) + (shl .i64 t483 (IntKind.u64.wrap (wrap64 (x15_29 - x16_29)))))) then ((lathelaw02_works.f).bind fun t486 => (some t486)) else (some false)) else (none)) else (none)) else (none)) else (none))) = some r := by first | (rw [hji38] at H; exact H) | (simp only [hji38] at H ⊢; exact H)
                  have hji38_ : (if t478 < t480 then t480 else t478) = ji38 := hji38
                  obtain ⟨ji39, hji39⟩ : ∃ j_ : Int, (mx (ji38) t482) = j_ := ⟨_, rfl⟩
                  replace H : (if (wrap64 ((mx (ji39) x15_29) - x16_29)) > 36 then ((lathelaw02_works.f).bind fun t485 => (some t485)) else (if 0 ≤ (IntKind.u64.wrap (wrap64 (t478 - x16_29))) then (if 0 ≤ (IntKind.u64.wrap (wrap64 (t480 - x16_29))) then (if 0 ≤ (IntKind.u64.wrap (wrap64 (t482 - x16_29))) then (if 0 ≤ (IntKind.u64.wrap (wrap64 (x15_29 - x16_29))) then (if (wrap64 ((shl .i64 t477 (IntKind.u64.wrap (wrap64 (t478 - x16_29)))) + (shl .i64 t479 (IntKind.u64.wrap (wrap64 (t480 - x16_29)))))) = (wrap64 ((shl .i64 t481 (IntKind.u64.wrap (wrap64 (t482 - x16_29)))) + (shl .i64 t483 (IntKind.u64.wrap (wrap64 (x15_29 - x16_29)))))) then ((lathelaw02_works.f).bind fun t486 => (some t486)) else (some false)) else (none)) else (none)) else (none)) else (none))) = some r := by first | (rw [hji39] at H; exact H) | (simp only [hji39] at H ⊢; exact H)
                  have hji39_ : (if (ji38) < t482 then t482 else (ji38)) = ji39 := hji39
                  obtain ⟨ji40, hji40⟩ : ∃ j_ : Int, (mx (ji39) x15_29) = j_ := ⟨_, rfl⟩
                  replace H : (if (wrap64 ((ji40) - x16_29)) > 36 then ((lathelaw02_works.f).bind fun t485 => (some t485)) else (if 0 ≤ (IntKind.u64.wrap (wrap64 (t478 - x16_29))) then (if 0 ≤ (IntKind.u64.wrap (wrap64 (t480 - x16_29))) then (if 0 ≤ (IntKind.u64.wrap (wrap64 (t482 - x16_29))) then (if 0 ≤ (IntKind.u64.wrap (wrap64 (x15_29 - x16_29))) then (if (wrap64 ((shl .i64 t477 (IntKind.u64.wrap (wrap64 (t478 - x16_29)))) + (shl .i64 t479 (IntKind.u64.wrap (wrap64 (t480 - x16_29)))))) = (wrap64 ((shl .i64 t481 (IntKind.u64.wrap (wrap64 (t482 - x16_29)))) + (shl .i64 t483 (IntKind.u64.wrap (wrap64 (x15_29 - x16_29)))))) then ((lathelaw02_works.f).bind fun t486 => (some t486)) else (some false)) else (none)) else (none)) else (none)) else (none))) = some r := by first | (rw [hji40] at H; exact H) | (simp only [hji40] at H ⊢; exact H)
                  have hji40_ : (if (ji39) < x15_29 then x15_29 else (ji39)) = ji40 := hji40
                  by_cases c41 : (wrap64 ((ji40) - x16_29)) > 36
                  · rw [if_pos c41] at H
                    have c41b0 : decide (36 < (wrap64 ((ji40) - x16_29))) = true := decide_eq_true c41
                    clear c41
                    replace H := Option.bind_eq_some_iff.mp H
                    obtain ⟨t485, A420, H⟩ := H
                    replace H : (some t485) = some r := H
                    have A42 := Aside0.mk A420
                    clear A420
                    obtain rfl := Option.some.inj H
                    go_wp2_with (first | ((with_reducible refine gate_callee (f := 50) rfl ?_); refine goesL_ (some 95) rfl rfl Try.func50 (by kernel_rfl) rfl #[] rfl (by (try simp only [List.map_toArray, List.map_cons, List.map_nil]); first | done | rfl | (simp only [List.length_drop, List.length_take]; rfl)) ?_; (with_reducible refine (lathelaw02_works.calls  t485 _ A42.out).mono ?_); rintro e w' ⟨rfl, ⟨nd, rfl⟩⟩; refine ⟨_, rfl, ?_⟩))
                    go_ret
                    exact ⟨by first | rfl | (simp [errW_none, errW_some] <;> rfl) | (simp only [← hji27, ← hji28, ← hji29, ← hji38, ← hji39, ← hji40]; first | rfl | (simp [errW_none, errW_some] <;> rfl)) | (simp [*, errW_none, errW_some] <;> rfl), by repeat (first | (with_reducible first | exact HB.out | apply below_alloc | apply pw_below_drewN | apply below_drew1) | exact HB.out)⟩
                  · rw [if_neg c41] at H
                    have c41b0 : decide (36 < (wrap64 ((ji40) - x16_29))) = false := decide_eq_false c41
                    clear c41
                    obtain ⟨ji43, hji43⟩ : ∃ j_ : Int, (IntKind.u64.wrap (wrap64 (t478 - x16_29))) = j_ := ⟨_, rfl⟩
                    replace H : (if 0 ≤ (ji43) then (if 0 ≤ (IntKind.u64.wrap (wrap64 (t480 - x16_29))) then (if 0 ≤ (IntKind.u64.wrap (wrap64 (t482 - x16_29))) then (if 0 ≤ (IntKind.u64.wrap (wrap64 (x15_29 - x16_29))) then (if (wrap64 ((shl .i64 t477 (ji43)) + (shl .i64 t479 (IntKind.u64.wrap (wrap64 (t480 - x16_29)))))) = (wrap64 ((shl .i64 t481 (IntKind.u64.wrap (wrap64 (t482 - x16_29)))) + (shl .i64 t483 (IntKind.u64.wrap (wrap64 (x15_29 - x16_29)))))) then ((lathelaw02_works.f).bind fun t486 => (some t486)) else (some false)) else (none)) else (none)) else (none)) else (none)) = some r := by first | (rw [hji43] at H; exact H) | (simp only [hji43] at H ⊢; exact H)
                    by_cases c44 : 0 ≤ (ji43)
                    · rw [if_pos c44] at H
                      have c44b0 := eq_true c44
                      have c44b1 : decide (0 ≤ (ji43)) = true := decide_eq_true c44
                      clear c44
                      obtain ⟨ji45, hji45⟩ : ∃ j_ : Int, (shl .i64 t477 (ji43)) = j_ := ⟨_, rfl⟩
                      replace H : (if 0 ≤ (IntKind.u64.wrap (wrap64 (t480 - x16_29))) then (if 0 ≤ (IntKind.u64.wrap (wrap64 (t482 - x16_29))) then (if 0 ≤ (IntKind.u64.wrap (wrap64 (x15_29 - x16_29))) then (if (wrap64 ((ji45) + (shl .i64 t479 (IntKind.u64.wrap (wrap64 (t480 - x16_29)))))) = (wrap64 ((shl .i64 t481 (IntKind.u64.wrap (wrap64 (t482 - x16_29)))) + (shl .i64 t483 (IntKind.u64.wrap (wrap64 (x15_29 - x16_29)))))) then ((lathelaw02_works.f).bind fun t486 => (some t486)) else (some false)) else (none)) else (none)) else (none)) = some r := by first | (rw [hji45] at H; exact H) | (simp only [hji45] at H ⊢; exact H)
                      have hji45_ : (IntKind.i64.wrap (t477 * 2 ^ min (ji43).toNat 64)) = ji45 := hji45
                      have hji45z : (ji43) ≤ 64 → (IntKind.i64.wrap (t477 * 2 ^ (ji43).toNat)) = ji45 := shl_small hji45
                      have hji45y : (wrap64 (t477 * 2 ^ min (ji43).toNat 64)) = ji45 := (i64_w _).symm.trans hji45_
                      have hji45x : (ji43) ≤ 64 → (wrap64 (t477 * 2 ^ (ji43).toNat)) = ji45 := fun h_ => (i64_w _).symm.trans (hji45z h_)
                      obtain ⟨ji46, hji46⟩ : ∃ j_ : Int, (IntKind.u64.wrap (wrap64 (t480 - x16_29))) = j_ := ⟨_, rfl⟩
                      replace H : (if 0 ≤ (ji46) then (if 0 ≤ (IntKind.u64.wrap (wrap64 (t482 - x16_29))) then (if 0 ≤ (IntKind.u64.wrap (wrap64 (x15_29 - x16_29))) then (if (wrap64 ((ji45) + (shl .i64 t479 (ji46)))) = (wrap64 ((shl .i64 t481 (IntKind.u64.wrap (wrap64 (t482 - x16_29)))) + (shl .i64 t483 (IntKind.u64.wrap (wrap64 (x15_29 - x16_29)))))) then ((lathelaw02_works.f).bind fun t486 => (some t486)) else (some false)) else (none)) else (none)) else (none)) = some r := by first | (rw [hji46] at H; exact H) | (simp only [hji46] at H ⊢; exact H)
                      by_cases c47 : 0 ≤ (ji46)
                      · rw [if_pos c47] at H
                        have c47b0 := eq_true c47
                        have c47b1 : decide (0 ≤ (ji46)) = true := decide_eq_true c47
                        clear c47
                        obtain ⟨ji48, hji48⟩ : ∃ j_ : Int, (shl .i64 t479 (ji46)) = j_ := ⟨_, rfl⟩
                        replace H : (if 0 ≤ (IntKind.u64.wrap (wrap64 (t482 - x16_29))) then (if 0 ≤ (IntKind.u64.wrap (wrap64 (x15_29 - x16_29))) then (if (wrap64 ((ji45) + (ji48))) = (wrap64 ((shl .i64 t481 (IntKind.u64.wrap (wrap64 (t482 - x16_29)))) + (shl .i64 t483 (IntKind.u64.wrap (wrap64 (x15_29 - x16_29)))))) then ((lathelaw02_works.f).bind fun t486 => (some t486)) else (some false)) else (none)) else (none)) = some r := by first | (rw [hji48] at H; exact H) | (simp only [hji48] at H ⊢; exact H)
                        have hji48_ : (IntKind.i64.wrap (t479 * 2 ^ min (ji46).toNat 64)) = ji48 := hji48
                        have hji48z : (ji46) ≤ 64 → (IntKind.i64.wrap (t479 * 2 ^ (ji46).toNat)) = ji48 := shl_small hji48
                        have hji48y : (wrap64 (t479 * 2 ^ min (ji46).toNat 64)) = ji48 := (i64_w _).symm.trans hji48_
                        have hji48x : (ji46) ≤ 64 → (wrap64 (t479 * 2 ^ (ji46).toNat)) = ji48 := fun h_ => (i64_w _).symm.trans (hji48z h_)
                        obtain ⟨ji49, hji49⟩ : ∃ j_ : Int, (IntKind.u64.wrap (wrap64 (t482 - x16_29))) = j_ := ⟨_, rfl⟩
                        replace H : (if 0 ≤ (ji49) then (if 0 ≤ (IntKind.u64.wrap (wrap64 (x15_29 - x16_29))) then (if (wrap64 ((ji45) + (ji48))) = (wrap64 ((shl .i64 t481 (ji49)) + (shl .i64 t483 (IntKind.u64.wrap (wrap64 (x15_29 - x16_29)))))) then ((lathelaw02_works.f).bind fun t486 => (some t486)) else (some false)) else (none)) else (none)) = some r := by first | (rw [hji49] at H; exact H) | (simp only [hji49] at H ⊢; exact H)
                        by_cases c50 : 0 ≤ (ji49)
                        · rw [if_pos c50] at H
                          have c50b0 := eq_true c50
                          have c50b1 : decide (0 ≤ (ji49)) = true := decide_eq_true c50
                          clear c50
                          obtain ⟨ji51, hji51⟩ : ∃ j_ : Int, (shl .i64 t481 (ji49)) = j_ := ⟨_, rfl⟩
                          replace H : (if 0 ≤ (IntKind.u64.wrap (wrap64 (x15_29 - x16_29))) then (if (wrap64 ((ji45) + (ji48))) = (wrap64 ((ji51) + (shl .i64 t483 (IntKind.u64.wrap (wrap64 (x15_29 - x16_29)))))) then ((lathelaw02_works.f).bind fun t486 => (some t486)) else (some false)) else (none)) = some r := by first | (rw [hji51] at H; exact H) | (simp only [hji51] at H ⊢; exact H)
                          have hji51_ : (IntKind.i64.wrap (t481 * 2 ^ min (ji49).toNat 64)) = ji51 := hji51
                          have hji51z : (ji49) ≤ 64 → (IntKind.i64.wrap (t481 * 2 ^ (ji49).toNat)) = ji51 := shl_small hji51
                          have hji51y : (wrap64 (t481 * 2 ^ min (ji49).toNat 64)) = ji51 := (i64_w _).symm.trans hji51_
                          have hji51x : (ji49) ≤ 64 → (wrap64 (t481 * 2 ^ (ji49).toNat)) = ji51 := fun h_ => (i64_w _).symm.trans (hji51z h_)
                          obtain ⟨ji52, hji52⟩ : ∃ j_ : Int, (IntKind.u64.wrap (wrap64 (x15_29 - x16_29))) = j_ := ⟨_, rfl⟩
                          replace H : (if 0 ≤ (ji52) then (if (wrap64 ((ji45) + (ji48))) = (wrap64 ((ji51) + (shl .i64 t483 (ji52)))) then ((lathelaw02_works.f).bind fun t486 => (some t486)) else (some false)) else (none)) = some r := by first | (rw [hji52] at H; exact H) | (simp only [hji52] at H ⊢; exact H)
                          by_cases c53 : 0 ≤ (ji52)
                          · rw [if_pos c53] at H
                            have c53b0 := eq_true c53
                            have c53b1 : decide (0 ≤ (ji52)) = true := decide_eq_true c53
                            clear c53
                            obtain ⟨ji54, hji54⟩ : ∃ j_ : Int, (shl .i64 t483 (ji52)) = j_ := ⟨_, rfl⟩
                            replace H : (if (wrap64 ((ji45) + (ji48))) = (wrap64 ((ji51) + (ji54))) then ((lathelaw02_works.f).bind fun t486 => (some t486)) else (some false)) = some r := by first | (rw [hji54] at H; exact H) | (simp only [hji54] at H ⊢; exact H)
                            have hji54_ : (IntKind.i64.wrap (t483 * 2 ^ min (ji52).toNat 64)) = ji54 := hji54
                            have hji54z : (ji52) ≤ 64 → (IntKind.i64.wrap (t483 * 2 ^ (ji52).toNat)) = ji54 := shl_small hji54
                            have hji54y : (wrap64 (t483 * 2 ^ min (ji52).toNat 64)) = ji54 := (i64_w _).symm.trans hji54_
                            have hji54x : (ji52) ≤ 64 → (wrap64 (t483 * 2 ^ (ji52).toNat)) = ji54 := fun h_ => (i64_w _).symm.trans (hji54z h_)
                            by_cases c55 : (wrap64 ((ji45) + (ji48))) = (wrap64 ((ji51) + (ji54)))
                            · rw [if_pos c55] at H
                              have c55b0 : ((wrap64 ((ji45) + (ji48))) == (wrap64 ((ji51) + (ji54)))) = true := beq_iff_eq.mpr c55
                              have c55b1 : ((wrap64 ((ji45) + (ji48))) != (wrap64 ((ji51) + (ji54)))) = false := bne_eq_false_iff_eq.mpr c55
                              clear c55
                              replace H := Option.bind_eq_some_iff.mp H
                              obtain ⟨t486, A560, H⟩ := H
                              replace H : (some t486) = some r := H
                              have A56 := Aside0.mk A560
                              clear A560
                              obtain rfl := Option.some.inj H
                              go_wp2_with (first | (go_at_call 50; (with_reducible refine (lathelaw02_works.calls  t486 _ A56.out).mono ?_); clear A56; rintro e w' ⟨rfl, ⟨nd, rfl⟩⟩))
                              go_ret
                              exact ⟨by first | rfl | (simp [errW_none, errW_some] <;> rfl) | (simp only [← hji27, ← hji28, ← hji29, ← hji38, ← hji39, ← hji40, ← hji43, ← hji45, ← hji46, ← hji48, ← hji49, ← hji51, ← hji52, ← hji54]; first | rfl | (simp [errW_none, errW_some] <;> rfl)) | (simp [*, errW_none, errW_some] <;> rfl), by repeat (first | (with_reducible first | exact HB.out | apply below_alloc | apply pw_below_drewN | apply below_drew1) | exact HB.out)⟩
                            · rw [if_neg c55] at H
                              have c55b0 : ((wrap64 ((ji45) + (ji48))) == (wrap64 ((ji51) + (ji54)))) = false := beq_eq_false_iff_ne.mpr c55
                              have c55b1 : ((wrap64 ((ji45) + (ji48))) != (wrap64 ((ji51) + (ji54)))) = true := bne_iff_ne.mpr c55
                              obtain rfl := Option.some.inj H
                              go_wp2
                              go_ret
                              exact ⟨by first | rfl | (simp [errW_none, errW_some] <;> rfl) | (simp only [← hji27, ← hji28, ← hji29, ← hji38, ← hji39, ← hji40, ← hji43, ← hji45, ← hji46, ← hji48, ← hji49, ← hji51, ← hji52, ← hji54]; first | rfl | (simp [errW_none, errW_some] <;> rfl)) | (simp [*, errW_none, errW_some] <;> rfl), by repeat (first | (with_reducible first | exact HB.out | apply below_alloc | apply pw_below_drewN | apply below_drew1) | exact HB.out)⟩
                          · rw [if_neg c53] at H
                            exact absurd H (by simp)
                        · rw [if_neg c50] at H
                          exact absurd H (by simp)
                      · rw [if_neg c47] at H
                        exact absurd H (by simp)
                    · rw [if_neg c44] at H
                      exact absurd H (by simp)

/-- THE ONE PURE STATEMENT of lathelaw02_FloatKnuth: yours. -/
def lathelaw02_FloatKnuth.Pure : Prop := ∀ (a0 : Int) (a1 : Int), (Lit.int .u32 a0).wf = true → (Lit.int .u32 a1).wf = true → ∃ k, lathelaw02_FloatKnuth.f k a0 a1 = some true
theorem lathelaw02_FloatKnuth.walk (P : lathelaw02_FloatKnuth.Pure) (a0 : Int) (a1 : Int) (w : World) (w0 : (Lit.int .u32 a0).wf = true) (w1 : (Lit.int .u32 a1).wf = true) :
    Calls Try.prog 17 #[.int .u32 a0, .int .u32 a1] w fun e w' => e = .returned (.bool true) ∧ Below w.heap.size w w' := by
  obtain ⟨k, h⟩ := P a0 a1 w0 w1
  refine (lathelaw02_FloatKnuth.calls k a0 a1 true w h).mono ?_
  rintro e w' ⟨rfl, hd⟩
  exact ⟨rfl, hd⟩

/-! ### lathelaw02_fixed: function 70 -/
def lathelaw02_fixed.f (a0 : Int) : Option (Int) := if a0 = 2147483648 then (some 0) else (some a0)
set_option maxHeartbeats 8000000 in
set_option maxRecDepth 100000 in
theorem lathelaw02_fixed.calls (a0 : Int) (r : Int) (w : World) (h : lathelaw02_fixed.f a0 = some r) :
    Calls Try.prog 70 #[.int .u32 a0] w fun e w' => e = .returned (.int .u32 r) ∧ Drawn0 w w' := by
  have H : (if a0 = 2147483648 then (some 0) else (some a0)) = some r := h
  clear h
  by_cases c2 : a0 = 2147483648
  · rw [if_pos c2] at H
    have c2b0 : (a0 == 2147483648) = true := beq_iff_eq.mpr c2
    have c2b1 : (a0 != 2147483648) = false := bne_eq_false_iff_eq.mpr c2
    clear c2
    obtain rfl := Option.some.inj H
    go_enter Try.func70, Try.ntmps70
    go_wp2
    go_ret
    exact ⟨by first | rfl | (simp; done) | (simp [*]; done), by repeat (first | exact Drawn0.refl _ | apply Drawn0.step)⟩
  · rw [if_neg c2] at H
    have c2b0 : (a0 == 2147483648) = false := beq_eq_false_iff_ne.mpr c2
    have c2b1 : (a0 != 2147483648) = true := bne_iff_ne.mpr c2
    obtain rfl := Option.some.inj H
    go_enter Try.func70, Try.ntmps70
    go_wp2
    go_ret
    exact ⟨by first | rfl | (simp; done) | (simp [*]; done), by repeat (first | exact Drawn0.refl _ | apply Drawn0.step)⟩

end Go.Proofs.Ytcegmbplgghjnaa.PF
