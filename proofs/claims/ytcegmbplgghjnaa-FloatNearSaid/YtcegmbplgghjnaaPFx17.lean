/- The functions of the program that a statement reaches, as plain functions, and that the machine's calls do what these say. No condition. (Printed by a program.) -/
import Derived.Test.YtcegmbplgghjnaaPFx0
import Derived.Test.YtcegmbplgghjnaaPFx2
import Derived.Test.YtcegmbplgghjnaaPFx4
import Derived.Test.YtcegmbplgghjnaaPFx11
import Derived.Test.YtcegmbplgghjnaaPFx16
namespace Go.Proofs.Ytcegmbplgghjnaa.PF
open Go.RowKit Go.Proofs.YtcegmbplgghjnaaW.PrintWords Go.Proofs.YtcegmbplgghjnaaW.PrintLast Go.Proofs.YtcegmbplgghjnaaW.PrintMore
attribute [local go_sem] max2_int min2_int max_two min_two max_three min_three max_four min_four   -- for this text's walks alone
set_option linter.unusedVariables false
set_option linter.unusedSimpArgs false

/-! ### lathelaw02_FloatNear: function 12 -/
mutual
def lathelaw02_FloatNear.j0 : Nat → Int → Int → Int → Int → Int → Int → Bool → Option (Bool)
  | 0, _, _, _, _, _, _, _ => none
  | k + 1, x0, x1, x5, x6, x7, x8, x33 => if x33 = true then ((lathelaw02_works.f).bind fun t423 => (some t423)) else ((float_Mul.f x0 x1).bind fun t424 => ((lathelaw02_parts.f t424).bind fun bt425 => ((float_Finite.f t424).bind fun t427 => (if t427 = true then (if (wrap64 ((wrap64 (bt425.2 - x6)) - x8)) ≥ 0 then (if (wrap64 ((wrap64 (bt425.2 - x6)) - x8)) ≤ 36 then ((lathelaw02_even.f bt425.1 (wrap64 (x5 * x7)) (wrap64 ((wrap64 (bt425.2 - x6)) - x8))).bind fun t428 => (lathelaw02_FloatNear.j1 k x0 x1 x5 x6 x7 x8 (!t428))) else (lathelaw02_FloatNear.j1 k x0 x1 x5 x6 x7 x8 false)) else (lathelaw02_FloatNear.j1 k x0 x1 x5 x6 x7 x8 false)) else (lathelaw02_FloatNear.j1 k x0 x1 x5 x6 x7 x8 false)))))
def lathelaw02_FloatNear.j1 : Nat → Int → Int → Int → Int → Int → Int → Bool → Option (Bool)
  | 0, _, _, _, _, _, _, _ => none
  | k + 1, x0, x1, x5, x6, x7, x8, x66 => if x66 = true then (some false) else ((float_Add.f x0 x1).bind fun t429 => ((lathelaw02_parts.f t429).bind fun bt430 => ((float_Finite.f t429).bind fun t432 => (if t432 = true then (lathelaw02_FloatNear.j2 k x5 x6 x7 x8 bt430.1 bt430.2 (mn x6 x8) (decide ((wrap64 ((mx (mx x6 x8) bt430.2) - (mn x6 x8))) > 36))) else (lathelaw02_FloatNear.j2 k x5 x6 x7 x8 bt430.1 bt430.2 (mn x6 x8) true)))))
def lathelaw02_FloatNear.j2 : Nat → Int → Int → Int → Int → Int → Int → Int → Bool → Option (Bool)
  | 0, _, _, _, _, _, _, _, _ => none
  | k + 1, x5, x6, x7, x8, x10, x11, x14, x89 => if x89 = true then ((lathelaw02_works.f).bind fun t433 => (some t433)) else (if 0 ≤ (IntKind.u64.wrap (wrap64 (x6 - x14))) then (if 0 ≤ (IntKind.u64.wrap (wrap64 (x8 - x14))) then (if x11 < x14 then (if 0 ≤ (IntKind.u64.wrap (wrap64 (x14 - x11))) then (if x10 = (shl .i64 (wrap64 ((shl .i64 x5 (IntKind.u64.wrap (wrap64 (x6 - x14)))) + (shl .i64 x7 (IntKind.u64.wrap (wrap64 (x8 - x14)))))) (IntKind.u64.wrap (wrap64 (x14 - x11)))) then ((lathelaw02_works.f).bind fun t434 => (some t434)) else (some false)) else (none)) else ((lathelaw02_even.f x10 (wrap64 ((shl .i64 x5 (IntKind.u64.wrap (wrap64 (x6 - x14)))) + (shl .i64 x7 (IntKind.u64.wrap (wrap64 (x8 - x14)))))) (wrap64 (x11 - x14))).bind fun t435 => (if t435 = true then ((lathelaw02_works.f).bind fun t436 => (some t436)) else (some false)))) else (none)) else (none))
end
def lathelaw02_FloatNear.f (k : Nat) (a0 : Int) (a1 : Int) : Option (Bool) := (lathelaw02_parts.f a0).bind fun bt417 => ((lathelaw02_parts.f a1).bind fun bt419 => ((float_Finite.f a0).bind fun t421 => (if t421 = true then ((float_Finite.f a1).bind fun t422 => (lathelaw02_FloatNear.j0 k a0 a1 bt417.1 bt417.2 bt419.1 bt419.2 (!t422))) else (lathelaw02_FloatNear.j0 k a0 a1 bt417.1 bt417.2 bt419.1 bt419.2 true))))
theorem lathelaw02_FloatNear.mono_l : ∀ k, (∀ y0 y1 y2 y3 y4 y5 y6, LeO (lathelaw02_FloatNear.j0 k y0 y1 y2 y3 y4 y5 y6) (lathelaw02_FloatNear.j0 (k + 1) y0 y1 y2 y3 y4 y5 y6)) ∧ (∀ y0 y1 y2 y3 y4 y5 y6, LeO (lathelaw02_FloatNear.j1 k y0 y1 y2 y3 y4 y5 y6) (lathelaw02_FloatNear.j1 (k + 1) y0 y1 y2 y3 y4 y5 y6)) ∧ (∀ y0 y1 y2 y3 y4 y5 y6 y7, LeO (lathelaw02_FloatNear.j2 k y0 y1 y2 y3 y4 y5 y6 y7) (lathelaw02_FloatNear.j2 (k + 1) y0 y1 y2 y3 y4 y5 y6 y7))
  | 0 => ⟨fun _ _ _ _ _ _ _ r h => by simp [lathelaw02_FloatNear.j0] at h, fun _ _ _ _ _ _ _ r h => by simp [lathelaw02_FloatNear.j1] at h, fun _ _ _ _ _ _ _ _ r h => by simp [lathelaw02_FloatNear.j2] at h⟩
  | k + 1 => by
    obtain ⟨ih0, ih1, ih2⟩ := lathelaw02_FloatNear.mono_l k
    refine ⟨?_, ?_, ?_⟩
    · intro y0 y1 y2 y3 y4 y5 y6
      unfold lathelaw02_FloatNear.j0
      repeat' first
      | (with_reducible exact ih0 _ _ _ _ _ _ _)
      | (with_reducible exact ih1 _ _ _ _ _ _ _)
      | (with_reducible exact ih2 _ _ _ _ _ _ _ _)
      | (with_reducible exact LeO.refl _)
      | (with_reducible exact LeO.none _)
      | (with_reducible refine LeO.ite ?_ ?_)
      | (with_reducible refine LeO.bind ?_ (fun _ => ?_))
      | exact ih0 _ _ _ _ _ _ _
      | exact ih1 _ _ _ _ _ _ _
      | exact ih2 _ _ _ _ _ _ _ _
      | exact LeO.none _
      | refine LeO.ite ?_ ?_
      | refine LeO.bind ?_ (fun _ => ?_)
    · intro y0 y1 y2 y3 y4 y5 y6
      unfold lathelaw02_FloatNear.j1
      repeat' first
      | (with_reducible exact ih0 _ _ _ _ _ _ _)
      | (with_reducible exact ih1 _ _ _ _ _ _ _)
      | (with_reducible exact ih2 _ _ _ _ _ _ _ _)
      | (with_reducible exact LeO.refl _)
      | (with_reducible exact LeO.none _)
      | (with_reducible refine LeO.ite ?_ ?_)
      | (with_reducible refine LeO.bind ?_ (fun _ => ?_))
      | exact ih0 _ _ _ _ _ _ _
      | exact ih1 _ _ _ _ _ _ _
      | exact ih2 _ _ _ _ _ _ _ _
      | exact LeO.none _
      | refine LeO.ite ?_ ?_
      | refine LeO.bind ?_ (fun _ => ?_)
    · intro y0 y1 y2 y3 y4 y5 y6 y7
      unfold lathelaw02_FloatNear.j2
      repeat' first
      | (with_reducible exact ih0 _ _ _ _ _ _ _)
      | (with_reducible exact ih1 _ _ _ _ _ _ _)
      | (with_reducible exact ih2 _ _ _ _ _ _ _ _)
      | (with_reducible exact LeO.refl _)
      | (with_reducible exact LeO.none _)
      | (with_reducible refine LeO.ite ?_ ?_)
      | (with_reducible refine LeO.bind ?_ (fun _ => ?_))
      | exact ih0 _ _ _ _ _ _ _
      | exact ih1 _ _ _ _ _ _ _
      | exact ih2 _ _ _ _ _ _ _ _
      | exact LeO.none _
      | refine LeO.ite ?_ ?_
      | refine LeO.bind ?_ (fun _ => ?_)
theorem lathelaw02_FloatNear.mono : ∀ a0 a1 k, LeO (lathelaw02_FloatNear.f k a0 a1) (lathelaw02_FloatNear.f (k + 1) a0 a1) := by
  intro a0 a1 k
  obtain ⟨ih0, ih1, ih2⟩ := lathelaw02_FloatNear.mono_l k
  unfold lathelaw02_FloatNear.f
  repeat' first
      | (with_reducible exact ih0 _ _ _ _ _ _ _)
      | (with_reducible exact ih1 _ _ _ _ _ _ _)
      | (with_reducible exact ih2 _ _ _ _ _ _ _ _)
      | (with_reducible exact LeO.refl _)
      | (with_reducible exact LeO.none _)
      | (with_reducible refine LeO.ite ?_ ?_)
      | (with_reducible refine LeO.bind ?_ (fun _ => ?_))
      | exact ih0 _ _ _ _ _ _ _
      | exact ih1 _ _ _ _ _ _ _
      | exact ih2 _ _ _ _ _ _ _ _
      | exact LeO.none _
      | refine LeO.ite ?_ ?_
      | refine LeO.bind ?_ (fun _ => ?_)
set_option maxHeartbeats 8000000 in
set_option maxRecDepth 100000 in
theorem lathelaw02_FloatNear.calls (k : Nat) (a0 : Int) (a1 : Int) (r : Bool) (w : World) (h : lathelaw02_FloatNear.f k a0 a1 = some r) :
    Calls Try.prog 12 #[.int .u32 a0, .int .u32 a1] w fun e w' => e = .returned (.bool r) ∧ Below w.heap.size w w' := by
  have HB := Aside0.mk (Below.refl w.heap.size w)
  have H : ((lathelaw02_parts.f a0).bind fun bt417 => ((lathelaw02_parts.f a1).bind fun bt419 => ((float_Finite.f a0).bind fun t421 => (if t421 = true then ((float_Finite.f a1).bind fun t422 => (lathelaw02_FloatNear.j0 k a0 a1 bt417.1 bt417.2 bt419.1 bt419.2 (!t422))) else (lathelaw02_FloatNear.j0 k a0 a1 bt417.1 bt417.2 bt419.1 bt419.2 true))))) = some r := h
  clear h
  replace H := Option.bind_eq_some_iff.mp H
  obtain ⟨⟨t417, t418⟩, A30, H⟩ := H
  replace H : ((lathelaw02_parts.f a1).bind fun bt419 => ((float_Finite.f a0).bind fun t421 => (if t421 = true then ((float_Finite.f a1).bind fun t422 => (lathelaw02_FloatNear.j0 k a0 a1 t417 t418 bt419.1 bt419.2 (!t422))) else (lathelaw02_FloatNear.j0 k a0 a1 t417 t418 bt419.1 bt419.2 true)))) = some r := H
  have A3 := Aside0.mk A30
  clear A30
  replace H := Option.bind_eq_some_iff.mp H
  obtain ⟨⟨t419, t420⟩, A40, H⟩ := H
  replace H : ((float_Finite.f a0).bind fun t421 => (if t421 = true then ((float_Finite.f a1).bind fun t422 => (lathelaw02_FloatNear.j0 k a0 a1 t417 t418 t419 t420 (!t422))) else (lathelaw02_FloatNear.j0 k a0 a1 t417 t418 t419 t420 true))) = some r := H
  have A4 := Aside0.mk A40
  clear A40
  have HC5 := Aside0.mk H
  clear H
  go_enter Try.func12, Try.ntmps12
  go_upto_region 3 with (first | ((with_reducible refine gate_callee (f := 57) rfl ?_); refine goesL_ (some 18) rfl rfl Try.func57 (by kernel_rfl) rfl #[.int .u32 a0] rfl (by (try simp only [List.map_toArray, List.map_cons, List.map_nil]); first | done | rfl | (simp only [List.length_drop, List.length_take]; rfl)) ?_; (with_reducible refine (lathelaw02_parts.calls a0 t417 t418 _ A3.out).mono ?_); rintro e w6 ⟨rfl, hb⟩; refine ⟨_, rfl, ?_⟩; have n0_ := Aside0.mk (below_step (by repeat (first | (with_reducible first | exact HB.out | apply below_alloc | apply pw_below_drewN | apply below_drew1) | exact HB.out)) hb); clear HB; have HB := n0_; clear n0_; (try clear hb); (try clear hb2); (try clear hk); (try clear hi)) | ((with_reducible refine gate_callee (f := 57) rfl ?_); refine goesL_ (some 23) rfl rfl Try.func57 (by kernel_rfl) rfl #[.int .u32 a1] rfl (by (try simp only [List.map_toArray, List.map_cons, List.map_nil]); first | done | rfl | (simp only [List.length_drop, List.length_take]; rfl)) ?_; (with_reducible refine (lathelaw02_parts.calls a1 t419 t420 _ A4.out).mono ?_); rintro e w7 ⟨rfl, hb⟩; refine ⟨_, rfl, ?_⟩; have n0_ := Aside0.mk (below_step (by repeat (first | (with_reducible first | exact HB.out | apply below_alloc | apply pw_below_drewN | apply below_drew1) | exact HB.out)) hb); clear HB; have HB := n0_; clear n0_; (try clear hb); (try clear hb2); (try clear hk); (try clear hi)))
  (try simp only [Act.put, List.setIfInBounds_toArray, List.set_cons_zero, List.set_cons_succ])
  go_cut [33] (fun v33 wc => ∃ (kq : Nat) (x33_4 : Bool), v33 = .bool x33_4 ∧ Aside0 (lathelaw02_FloatNear.j0 kq a0 a1 t417 t418 t419 t420 x33_4 = some r) ∧ Aside0 (kq ≤ k) ∧ Aside0 (Below w.heap.size w wc))
  case first =>
    have H := HC5.out
    clear HC5
    replace H := Option.bind_eq_some_iff.mp H
    obtain ⟨t421, A80, H⟩ := H
    replace H : (if t421 = true then ((float_Finite.f a1).bind fun t422 => (lathelaw02_FloatNear.j0 k a0 a1 t417 t418 t419 t420 (!t422))) else (lathelaw02_FloatNear.j0 k a0 a1 t417 t418 t419 t420 true)) = some r := H
    have A8 := Aside0.mk A80
    clear A80
    by_cases c9 : t421 = true
    · subst c9
      have H1 : ((float_Finite.f a1).bind fun t422 => (lathelaw02_FloatNear.j0 k a0 a1 t417 t418 t419 t420 (!t422))) = some r := by rw [if_pos rfl] at H; exact H
      clear H
      have H := H1
      clear H1
      replace H := Option.bind_eq_some_iff.mp H
      obtain ⟨t422, A100, H⟩ := H
      replace H : (lathelaw02_FloatNear.j0 k a0 a1 t417 t418 t419 t420 (!t422)) = some r := H
      have A10 := Aside0.mk A100
      clear A100
      have H' := Aside0.mk H
      clear H
      go_wp2_with (first | ((with_reducible refine gate_callee (f := 58) rfl ?_); refine goesL_ (some 27) rfl rfl Try.func58 (by kernel_rfl) rfl #[.int .u32 a0] rfl (by (try simp only [List.map_toArray, List.map_cons, List.map_nil]); first | done | rfl | (simp only [List.length_drop, List.length_take]; rfl)) ?_; (with_reducible refine (float_Finite.calls a0 true _ A8.out).mono ?_); rintro e w' ⟨rfl, ⟨nd, rfl⟩⟩; refine ⟨_, rfl, ?_⟩) | (go_at_call 58; (with_reducible refine (float_Finite.calls a1 t422 _ A10.out).mono ?_); clear A10; rintro e w' ⟨rfl, ⟨nd, rfl⟩⟩))
      go_meet
      case rel => exact ⟨_, (!t422), (by first | rfl | (simp; done) | (simp [*]; done)), H', ⟨by first | omega | exact Nat.le_refl _⟩, ⟨by repeat (first | (with_reducible first | exact HB.out | apply below_alloc | apply pw_below_drewN | apply below_drew1) | exact HB.out)⟩⟩
    · replace c9 := Bool.eq_false_iff.mpr c9
      subst c9
      have H1 : (lathelaw02_FloatNear.j0 k a0 a1 t417 t418 t419 t420 true) = some r := by rw [if_neg (show ¬ (false = true) by decide)] at H; exact H
      clear H
      have H := H1
      clear H1
      have H' := Aside0.mk H
      clear H
      go_wp2_with (first | ((with_reducible refine gate_callee (f := 58) rfl ?_); refine goesL_ (some 27) rfl rfl Try.func58 (by kernel_rfl) rfl #[.int .u32 a0] rfl (by (try simp only [List.map_toArray, List.map_cons, List.map_nil]); first | done | rfl | (simp only [List.length_drop, List.length_take]; rfl)) ?_; (with_reducible refine (float_Finite.calls a0 false _ A8.out).mono ?_); rintro e w' ⟨rfl, ⟨nd, rfl⟩⟩; refine ⟨_, rfl, ?_⟩))
      go_meet
      case rel => exact ⟨_, (true), (by first | rfl | (simp; done) | (simp [*]; done)), H', ⟨by first | omega | exact Nat.le_refl _⟩, ⟨by repeat (first | (with_reducible first | exact HB.out | apply below_alloc | apply pw_below_drewN | apply below_drew1) | exact HB.out)⟩⟩
  case rest =>
    clear HC5
    try clear c1
    try clear p2
    try clear c5
    try clear c9
    obtain ⟨kq, x33_4, rfl, HA, HJ4, HB⟩ := hcut
    cases kq with
    | zero => exact absurd HA.out (by simp [lathelaw02_FloatNear.j0])
    | succ kj4 =>
      have H := HA.out
      clear HA
      simp only [lathelaw02_FloatNear.j0] at H
      by_cases c11 : x33_4 = true
      · subst c11
        have H1 : ((lathelaw02_works.f).bind fun t423 => (some t423)) = some r := by rw [if_pos rfl] at H; exact H
        clear H
        have H := H1
        clear H1
        replace H := Option.bind_eq_some_iff.mp H
        obtain ⟨t423, A120, H⟩ := H
        replace H : (some t423) = some r := H
        have A12 := Aside0.mk A120
        clear A120
        obtain rfl := Option.some.inj H
        go_wp2_with (first | ((with_reducible refine gate_callee (f := 50) rfl ?_); refine goesL_ (some 34) rfl rfl Try.func50 (by kernel_rfl) rfl #[] rfl (by (try simp only [List.map_toArray, List.map_cons, List.map_nil]); first | done | rfl | (simp only [List.length_drop, List.length_take]; rfl)) ?_; (with_reducible refine (lathelaw02_works.calls  t423 _ A12.out).mono ?_); rintro e w' ⟨rfl, ⟨nd, rfl⟩⟩; refine ⟨_, rfl, ?_⟩))
        go_ret
        exact ⟨by first | rfl | (simp [errW_none, errW_some] <;> rfl) | (simp [*, errW_none, errW_some] <;> rfl), by repeat (first | (with_reducible first | exact HB.out | apply below_alloc | apply pw_below_drewN | apply below_drew1) | exact HB.out)⟩
      · replace c11 := Bool.eq_false_iff.mpr c11
        subst c11
        have H1 : ((float_Mul.f a0 a1).bind fun t424 => ((lathelaw02_parts.f t424).bind fun bt425 => ((float_Finite.f t424).bind fun t427 => (if t427 = true then (if (wrap64 ((wrap64 (bt425.2 - t418)) - t420)) ≥ 0 then (if (wrap64 ((wrap64 (bt425.2 - t418)) - t420)) ≤ 36 then ((lathelaw02_even.f bt425.1 (wrap64 (t417 * t419)) (wrap64 ((wrap64 (bt425.2 - t418)) - t420))).bind fun t428 => (lathelaw02_FloatNear.j1 kj4 a0 a1 t417 t418 t419 t420 (!t428))) else (lathelaw02_FloatNear.j1 kj4 a0 a1 t417 t418 t419 t420 false)) else (lathelaw02_FloatNear.j1 kj4 a0 a1 t417 t418 t419 t420 false)) else (lathelaw02_FloatNear.j1 kj4 a0 a1 t417 t418 t419 t420 false))))) = some r := by rw [if_neg (show ¬ (false = true) by decide)] at H; exact H
        clear H
        have H := H1
        clear H1
        replace H := Option.bind_eq_some_iff.mp H
        obtain ⟨t424, A130, H⟩ := H
        replace H : ((lathelaw02_parts.f t424).bind fun bt425 => ((float_Finite.f t424).bind fun t427 => (if t427 = true then (if (wrap64 ((wrap64 (bt425.2 - t418)) - t420)) ≥ 0 then (if (wrap64 ((wrap64 (bt425.2 - t418)) - t420)) ≤ 36 then ((lathelaw02_even.f bt425.1 (wrap64 (t417 * t419)) (wrap64 ((wrap64 (bt425.2 - t418)) - t420))).bind fun t428 => (lathelaw02_FloatNear.j1 kj4 a0 a1 t417 t418 t419 t420 (!t428))) else (lathelaw02_FloatNear.j1 kj4 a0 a1 t417 t418 t419 t420 false)) else (lathelaw02_FloatNear.j1 kj4 a0 a1 t417 t418 t419 t420 false)) else (lathelaw02_FloatNear.j1 kj4 a0 a1 t417 t418 t419 t420 false)))) = some r := H
        have A13 := Aside0.mk A130
        clear A130
        replace H := Option.bind_eq_some_iff.mp H
        obtain ⟨⟨t425, t426⟩, A140, H⟩ := H
        replace H : ((float_Finite.f t424).bind fun t427 => (if t427 = true then (if (wrap64 ((wrap64 (t426 - t418)) - t420)) ≥ 0 then (if (wrap64 ((wrap64 (t426 - t418)) - t420)) ≤ 36 then ((lathelaw02_even.f t425 (wrap64 (t417 * t419)) (wrap64 ((wrap64 (t426 - t418)) - t420))).bind fun t428 => (lathelaw02_FloatNear.j1 kj4 a0 a1 t417 t418 t419 t420 (!t428))) else (lathelaw02_FloatNear.j1 kj4 a0 a1 t417 t418 t419 t420 false)) else (lathelaw02_FloatNear.j1 kj4 a0 a1 t417 t418 t419 t420 false)) else (lathelaw02_FloatNear.j1 kj4 a0 a1 t417 t418 t419 t420 false))) = some r := H
        have A14 := Aside0.mk A140
        clear A140
        have HC15 := Aside0.mk H
        clear H
        go_upto_region 8 with (first | ((with_reducible refine gate_callee (f := 48) rfl ?_); refine goesL_ (some 37) rfl rfl Try.func48 (by kernel_rfl) rfl #[.int .u32 a0, .int .u32 a1] rfl (by (try simp only [List.map_toArray, List.map_cons, List.map_nil]); first | done | rfl | (simp only [List.length_drop, List.length_take]; rfl)) ?_; (with_reducible refine (float_Mul.calls a0 a1 t424 _ A13.out).mono ?_); rintro e w' ⟨rfl, ⟨nd, rfl⟩⟩; refine ⟨_, rfl, ?_⟩) | ((with_reducible refine gate_callee (f := 57) rfl ?_); refine goesL_ (some 40) rfl rfl Try.func57 (by kernel_rfl) rfl #[.int .u32 t424] rfl (by (try simp only [List.map_toArray, List.map_cons, List.map_nil]); first | done | rfl | (simp only [List.length_drop, List.length_take]; rfl)) ?_; (with_reducible refine (lathelaw02_parts.calls t424 t425 t426 _ A14.out).mono ?_); rintro e w16 ⟨rfl, hb⟩; refine ⟨_, rfl, ?_⟩; have n0_ := Aside0.mk (below_step (by repeat (first | (with_reducible first | exact HB.out | apply below_alloc | apply pw_below_drewN | apply below_drew1) | exact HB.out)) hb); clear HB; have HB := n0_; clear n0_; (try clear hb); (try clear hb2); (try clear hk); (try clear hi)))
        (try simp only [Act.put, List.setIfInBounds_toArray, List.set_cons_zero, List.set_cons_succ])
        go_cut [66] (fun v66 wc => ∃ (kq : Nat) (x66_14 : Bool), v66 = .bool x66_14 ∧ Aside0 (lathelaw02_FloatNear.j1 kq a0 a1 t417 t418 t419 t420 x66_14 = some r) ∧ Aside0 (kq ≤ kj4) ∧ Aside0 (Below w.heap.size w wc))
        case first =>
          have H := HC15.out
          clear HC15
          replace H := Option.bind_eq_some_iff.mp H
          obtain ⟨t427, A170, H⟩ := H
          replace H : (if t427 = true then (if (wrap64 ((wrap64 (t426 - t418)) - t420)) ≥ 0 then (if (wrap64 ((wrap64 (t426 - t418)) - t420)) ≤ 36 then ((lathelaw02_even.f t425 (wrap64 (t417 * t419)) (wrap64 ((wrap64 (t426 - t418)) - t420))).bind fun t428 => (lathelaw02_FloatNear.j1 kj4 a0 a1 t417 t418 t419 t420 (!t428))) else (lathelaw02_FloatNear.j1 kj4 a0 a1 t417 t418 t419 t420 false)) else (lathelaw02_FloatNear.j1 kj4 a0 a1 t417 t418 t419 t420 false)) else (lathelaw02_FloatNear.j1 kj4 a0 a1 t417 t418 t419 t420 false)) = some r := H
          have A17 := Aside0.mk A170
          clear A170
          by_cases c18 : t427 = true
          · subst c18
            have H1 : (if (wrap64 ((wrap64 (t426 - t418)) - t420)) ≥ 0 then (if (wrap64 ((wrap64 (t426 - t418)) - t420)) ≤ 36 then ((lathelaw02_even.f t425 (wrap64 (t417 * t419)) (wrap64 ((wrap64 (t426 - t418)) - t420))).bind fun t428 => (lathelaw02_FloatNear.j1 kj4 a0 a1 t417 t418 t419 t420 (!t428))) else (lathelaw02_FloatNear.j1 kj4 a0 a1 t417 t418 t419 t420 false)) else (lathelaw02_FloatNear.j1 kj4 a0 a1 t417 t418 t419 t420 false)) = some r := by rw [if_pos rfl] at H; exact H
            clear H
            have H := H1
            clear H1
            by_cases c19 : (wrap64 ((wrap64 (t426 - t418)) - t420)) ≥ 0
            · rw [if_pos c19] at H
              have c19b0 : decide (0 ≤ (wrap64 ((wrap64 (t426 - t418)) - t420))) = true := decide_eq_true c19
              clear c19
              (first | rw [c19b0] | (simp only [i64_w, i32_w]; rw [c19b0]) | skip)
              by_cases c20 : (wrap64 ((wrap64 (t426 - t418)) - t420)) ≤ 36
              · rw [if_pos c20] at H
                have c20b0 : decide ((wrap64 ((wrap64 (t426 - t418)) - t420)) ≤ 36) = true := decide_eq_true c20
                clear c20
                replace H := Option.bind_eq_some_iff.mp H
                obtain ⟨t428, A210, H⟩ := H
                replace H : (lathelaw02_FloatNear.j1 kj4 a0 a1 t417 t418 t419 t420 (!t428)) = some r := H
                have A21 := Aside0.mk A210
                clear A210
                have H' := Aside0.mk H
                clear H
                go_wp2_with (first | ((with_reducible refine gate_callee (f := 58) rfl ?_); refine goesL_ (some 49) rfl rfl Try.func58 (by kernel_rfl) rfl #[.int .u32 t424] rfl (by (try simp only [List.map_toArray, List.map_cons, List.map_nil]); first | done | rfl | (simp only [List.length_drop, List.length_take]; rfl)) ?_; (with_reducible refine (float_Finite.calls t424 true _ A17.out).mono ?_); rintro e w' ⟨rfl, ⟨nd, rfl⟩⟩; refine ⟨_, rfl, ?_⟩) | (go_at_call 59; (with_reducible refine (lathelaw02_even.calls t425 (wrap64 (t417 * t419)) (wrap64 ((wrap64 (t426 - t418)) - t420)) t428 _ A21.out).mono ?_); clear A21; rintro e w' ⟨rfl, ⟨nd, rfl⟩⟩))
                go_meet
                case rel => exact ⟨_, (!t428), (by first | rfl | (simp; done) | (simp [*]; done)), H', ⟨by have := HJ4.out; first | omega | exact Nat.le_refl _⟩, ⟨by repeat (first | (with_reducible first | exact HB.out | apply below_alloc | apply pw_below_drewN | apply below_drew1) | exact HB.out)⟩⟩
              · rw [if_neg c20] at H
                have c20b0 : decide ((wrap64 ((wrap64 (t426 - t418)) - t420)) ≤ 36) = false := decide_eq_false c20
                clear c20
                have H' := Aside0.mk H
                clear H
                go_wp2_with (first | ((with_reducible refine gate_callee (f := 58) rfl ?_); refine goesL_ (some 49) rfl rfl Try.func58 (by kernel_rfl) rfl #[.int .u32 t424] rfl (by (try simp only [List.map_toArray, List.map_cons, List.map_nil]); first | done | rfl | (simp only [List.length_drop, List.length_take]; rfl)) ?_; (with_reducible refine (float_Finite.calls t424 true _ A17.out).mono ?_); rintro e w' ⟨rfl, ⟨nd, rfl⟩⟩; refine ⟨_, rfl, ?_⟩))
                go_meet
                case rel => exact ⟨_, (false), (by first | rfl | (simp; done) | (simp [*]; done)), H', ⟨by have := HJ4.out; first | omega | exact Nat.le_refl _⟩, ⟨by repeat (first | (with_reducible first | exact HB.out | apply below_alloc | apply pw_below_drewN | apply below_drew1) | exact HB.out)⟩⟩
            · rw [if_neg c19] at H
              have c19b0 : decide (0 ≤ (wrap64 ((wrap64 (t426 - t418)) - t420))) = false := decide_eq_false c19
              clear c19
              (first | rw [c19b0] | (simp only [i64_w, i32_w]; rw [c19b0]) | skip)
              have H' := Aside0.mk H
              clear H
              go_wp2_with (first | ((with_reducible refine gate_callee (f := 58) rfl ?_); refine goesL_ (some 49) rfl rfl Try.func58 (by kernel_rfl) rfl #[.int .u32 t424] rfl (by (try simp only [List.map_toArray, List.map_cons, List.map_nil]); first | done | rfl | (simp only [List.length_drop, List.length_take]; rfl)) ?_; (with_reducible refine (float_Finite.calls t424 true _ A17.out).mono ?_); rintro e w' ⟨rfl, ⟨nd, rfl⟩⟩; refine ⟨_, rfl, ?_⟩))
              go_meet
              case rel => exact ⟨_, (false), (by first | rfl | (simp; done) | (simp [*]; done)), H', ⟨by have := HJ4.out; first | omega | exact Nat.le_refl _⟩, ⟨by repeat (first | (with_reducible first | exact HB.out | apply below_alloc | apply pw_below_drewN | apply below_drew1) | exact HB.out)⟩⟩
          · replace c18 := Bool.eq_false_iff.mpr c18
            subst c18
            have H1 : (lathelaw02_FloatNear.j1 kj4 a0 a1 t417 t418 t419 t420 false) = some r := by rw [if_neg (show ¬ (false = true) by decide)] at H; exact H
            clear H
            have H := H1
            clear H1
            have H' := Aside0.mk H
            clear H
            go_wp2_with (first | ((with_reducible refine gate_callee (f := 58) rfl ?_); refine goesL_ (some 49) rfl rfl Try.func58 (by kernel_rfl) rfl #[.int .u32 t424] rfl (by (try simp only [List.map_toArray, List.map_cons, List.map_nil]); first | done | rfl | (simp only [List.length_drop, List.length_take]; rfl)) ?_; (with_reducible refine (float_Finite.calls t424 false _ A17.out).mono ?_); rintro e w' ⟨rfl, ⟨nd, rfl⟩⟩; refine ⟨_, rfl, ?_⟩))
            go_meet
            case rel => exact ⟨_, (false), (by first | rfl | (simp; done) | (simp [*]; done)), H', ⟨by have := HJ4.out; first | omega | exact Nat.le_refl _⟩, ⟨by repeat (first | (with_reducible first | exact HB.out | apply below_alloc | apply pw_below_drewN | apply below_drew1) | exact HB.out)⟩⟩
        case rest =>
          clear HC15
          try clear c1
          try clear c2
          try clear p2
          try clear c4
          try clear c5
          try clear p6
          try clear c9
          try clear c11
          try clear c12
          try clear c18
          try clear c19
          try clear c19b0
          try clear c20
          try clear c20b0
          try clear p2
          obtain ⟨kq, x66_14, rfl, HA, HJ14, HB⟩ := hcut
          cases kq with
          | zero => exact absurd HA.out (by simp [lathelaw02_FloatNear.j1])
          | succ kj14 =>
            have H := HA.out
            clear HA
            simp only [lathelaw02_FloatNear.j1] at H
            by_cases c22 : x66_14 = true
            · subst c22
              have H1 : (some false) = some r := by rw [if_pos rfl] at H; exact H
              clear H
              have H := H1
              clear H1
              obtain rfl := Option.some.inj H
              go_wp2
              go_ret
              exact ⟨by first | rfl | (simp [errW_none, errW_some] <;> rfl) | (simp [*, errW_none, errW_some] <;> rfl), by repeat (first | (with_reducible first | exact HB.out | apply below_alloc | apply pw_below_drewN | apply below_drew1) | exact HB.out)⟩
            · replace c22 := Bool.eq_false_iff.mpr c22
              subst c22
              have H1 : ((float_Add.f a0 a1).bind fun t429 => ((lathelaw02_parts.f t429).bind fun bt430 => ((float_Finite.f t429).bind fun t432 => (if t432 = true then (lathelaw02_FloatNear.j2 kj14 t417 t418 t419 t420 bt430.1 bt430.2 (mn t418 t420) (decide ((wrap64 ((mx (mx t418 t420) bt430.2) - (mn t418 t420))) > 36))) else (lathelaw02_FloatNear.j2 kj14 t417 t418 t419 t420 bt430.1 bt430.2 (mn t418 t420) true))))) = some r := by rw [if_neg (show ¬ (false = true) by decide)] at H; exact H
              clear H
              have H := H1
              clear H1
              replace H := Option.bind_eq_some_iff.mp H
              obtain ⟨t429, A230, H⟩ := H
              replace H : ((lathelaw02_parts.f t429).bind fun bt430 => ((float_Finite.f t429).bind fun t432 => (if t432 = true then (lathelaw02_FloatNear.j2 kj14 t417 t418 t419 t420 bt430.1 bt430.2 (mn t418 t420) (decide ((wrap64 ((mx (mx t418 t420) bt430.2) - (mn t418 t420))) > 36))) else (lathelaw02_FloatNear.j2 kj14 t417 t418 t419 t420 bt430.1 bt430.2 (mn t418 t420) true)))) = some r := H
              have A23 := Aside0.mk A230
              clear A230
              replace H := Option.bind_eq_some_iff.mp H
              obtain ⟨⟨t430, t431⟩, A240, H⟩ := H
              replace H : ((float_Finite.f t429).bind fun t432 => (if t432 = true then (lathelaw02_FloatNear.j2 kj14 t417 t418 t419 t420 t430 t431 (mn t418 t420) (decide ((wrap64 ((mx (mx t418 t420) t431) - (mn t418 t420))) > 36))) else (lathelaw02_FloatNear.j2 kj14 t417 t418 t419 t420 t430 t431 (mn t418 t420) true))) = some r := H
              have A24 := Aside0.mk A240
              clear A240
              obtain ⟨ji25, hji25⟩ : ∃ j_ : Int, (mn t418 t420) = j_ := ⟨_, rfl⟩
              replace H : ((float_Finite.f t429).bind fun t432 => (if t432 = true then (lathelaw02_FloatNear.j2 kj14 t417 t418 t419 t420 t430 t431 ji25 (decide ((wrap64 ((mx (mx t418 t420) t431) - (ji25))) > 36))) else (lathelaw02_FloatNear.j2 kj14 t417 t418 t419 t420 t430 t431 ji25 true))) = some r := by first | (rw [hji25] at H; exact H) | (simp only [hji25] at H ⊢; exact H)
              (try rw [hji25] at A23)
              (try rw [hji25] at A24)
              have hji25_ : (if t420 < t418 then t420 else t418) = ji25 := hji25
              have HC26 := Aside0.mk H
              clear H
              go_upto_region 13 with (first | ((with_reducible refine gate_callee (f := 53) rfl ?_); refine goesL_ (some 69) rfl rfl Try.func53 (by kernel_rfl) rfl #[.int .u32 a0, .int .u32 a1] rfl (by (try simp only [List.map_toArray, List.map_cons, List.map_nil]); first | done | rfl | (simp only [List.length_drop, List.length_take]; rfl)) ?_; (with_reducible refine (float_Add.calls a0 a1 t429 _ A23.out).mono ?_); rintro e w' ⟨rfl, ⟨nd, rfl⟩⟩; refine ⟨_, rfl, ?_⟩) | ((with_reducible refine gate_callee (f := 57) rfl ?_); refine goesL_ (some 72) rfl rfl Try.func57 (by kernel_rfl) rfl #[.int .u32 t429] rfl (by (try simp only [List.map_toArray, List.map_cons, List.map_nil]); first | done | rfl | (simp only [List.length_drop, List.length_take]; rfl)) ?_; (with_reducible refine (lathelaw02_parts.calls t429 t430 t431 _ A24.out).mono ?_); rintro e w27 ⟨rfl, hb⟩; refine ⟨_, rfl, ?_⟩; have n0_ := Aside0.mk (below_step (by repeat (first | (with_reducible first | exact HB.out | apply below_alloc | apply pw_below_drewN | apply below_drew1) | exact HB.out)) hb); clear HB; have HB := n0_; clear n0_; (try clear hb); (try clear hb2); (try clear hk); (try clear hi)))
              (try simp only [Act.put, List.setIfInBounds_toArray, List.set_cons_zero, List.set_cons_succ])
              go_cut [89] (fun v89 wc => ∃ (kq : Nat) (x89_25 : Bool), v89 = .bool x89_25 ∧ Aside0 (lathelaw02_FloatNear.j2 kq t417 t418 t419 t420 t430 t431 ji25 x89_25 = some r) ∧ Aside0 (kq ≤ kj14) ∧ Aside0 (Below w.heap.size w wc))
              case first =>
                have H := HC26.out
                clear HC26
                replace H := Option.bind_eq_some_iff.mp H
                obtain ⟨t432, A280, H⟩ := H
                replace H : (if t432 = true then (lathelaw02_FloatNear.j2 kj14 t417 t418 t419 t420 t430 t431 ji25 (decide ((wrap64 ((mx (mx t418 t420) t431) - (ji25))) > 36))) else (lathelaw02_FloatNear.j2 kj14 t417 t418 t419 t420 t430 t431 ji25 true)) = some r := H
                have A28 := Aside0.mk A280
                clear A280
                by_cases c29 : t432 = true
                · subst c29
                  have H1 : (lathelaw02_FloatNear.j2 kj14 t417 t418 t419 t420 t430 t431 ji25 (decide ((wrap64 ((mx (mx t418 t420) t431) - (ji25))) > 36))) = some r := by rw [if_pos rfl] at H; exact H
                  clear H
                  have H := H1
                  clear H1
                  obtain ⟨ji30, hji30⟩ : ∃ j_ : Int, (mx t418 t420) = j_ := ⟨_, rfl⟩
                  replace H : (lathelaw02_FloatNear.j2 kj14 t417 t418 t419 t420 t430 t431 ji25 (decide ((wrap64 ((mx (ji30) t431) - (ji25))) > 36))) = some r := by first | (rw [hji30] at H; exact H) | (simp only [hji30] at H ⊢; exact H)
                  (try rw [hji30] at A28)
                  have hji30_ : (if t418 < t420 then t420 else t418) = ji30 := hji30
                  obtain ⟨ji31, hji31⟩ : ∃ j_ : Int, (mx (ji30) t431) = j_ := ⟨_, rfl⟩
                  replace H : (lathelaw02_FloatNear.j2 kj14 t417 t418 t419 t420 t430 t431 ji25 (decide ((wrap64 ((ji31) - (ji25))) > 36))) = some r := by first | (rw [hji31] at H; exact H) | (simp only [hji31] at H ⊢; exact H)
                  (try rw [hji31] at A28)
                  have hji31_ : (if (ji30) < t431 then t431 else (ji30)) = ji31 := hji31
                  have H' := Aside0.mk H
                  clear H
                  go_wp2_with (first | ((with_reducible refine gate_callee (f := 58) rfl ?_); refine goesL_ (some 79) rfl rfl Try.func58 (by kernel_rfl) rfl #[.int .u32 t429] rfl (by (try simp only [List.map_toArray, List.map_cons, List.map_nil]); first | done | rfl | (simp only [List.length_drop, List.length_take]; rfl)) ?_; (with_reducible refine (float_Finite.calls t429 true _ A28.out).mono ?_); rintro e w' ⟨rfl, ⟨nd, rfl⟩⟩; refine ⟨_, rfl, ?_⟩))
                  go_meet
                  case rel => exact ⟨_, (decide ((wrap64 ((ji31) - (ji25))) > 36)), (by first | rfl | (simp; done) | (simp only [← hji25, ← hji31] <;> (first | rfl | simp)) | (simp [*]; done)), H', ⟨by have := HJ4.out; have := HJ14.out; first | omega | exact Nat.le_refl _⟩, ⟨by repeat (first | (with_reducible first | exact HB.out | apply below_alloc | apply pw_below_drewN | apply below_drew1) | exact HB.out)⟩⟩
                · replace c29 := Bool.eq_false_iff.mpr c29
                  subst c29
                  have H1 : (lathelaw02_FloatNear.j2 kj14 t417 t418 t419 t420 t430 t431 ji25 true) = some r := by rw [if_neg (show ¬ (false = true) by decide)] at H; exact H
                  clear H
                  have H := H1
                  clear H1
                  have H' := Aside0.mk H
                  clear H
                  go_wp2_with (first | ((with_reducible refine gate_callee (f := 58) rfl ?_); refine goesL_ (some 79) rfl rfl Try.func58 (by kernel_rfl) rfl #[.int .u32 t429] rfl (by (try simp only [List.map_toArray, List.map_cons, List.map_nil]); first | done | rfl | (simp only [List.length_drop, List.length_take]; rfl)) ?_; (with_reducible refine (float_Finite.calls t429 false _ A28.out).mono ?_); rintro e w' ⟨rfl, ⟨nd, rfl⟩⟩; refine ⟨_, rfl, ?_⟩))
                  go_meet
                  case rel => exact ⟨_, (true), (by first | rfl | (simp; done) | (simp [*]; done)), H', ⟨by have := HJ4.out; have := HJ14.out; first | omega | exact Nat.le_refl _⟩, ⟨by repeat (first | (with_reducible first | exact HB.out | apply below_alloc | apply pw_below_drewN | apply below_drew1) | exact HB.out)⟩⟩
              case rest =>
                clear HC26
                try clear c1
                try clear c2
                try clear p2
                try clear c4
                try clear c5
                try clear p6
                try clear c9
                try clear c11
                try clear c12
                try clear c18
                try clear c19
                try clear c19b0
                try clear c20
                try clear c20b0
                try clear c22
                try clear c29
                try clear p2
                try clear p6
                obtain ⟨kq, x89_25, rfl, HA, HJ25, HB⟩ := hcut
                cases kq with
                | zero => exact absurd HA.out (by simp [lathelaw02_FloatNear.j2])
                | succ kj25 =>
                  have H := HA.out
                  clear HA
                  simp only [lathelaw02_FloatNear.j2] at H
                  by_cases c32 : x89_25 = true
                  · subst c32
                    have H1 : ((lathelaw02_works.f).bind fun t433 => (some t433)) = some r := by rw [if_pos rfl] at H; exact H
                    clear H
                    have H := H1
                    clear H1
                    replace H := Option.bind_eq_some_iff.mp H
                    obtain ⟨t433, A330, H⟩ := H
                    replace H : (some t433) = some r := H
                    have A33 := Aside0.mk A330
                    clear A330
                    obtain rfl := Option.some.inj H
                    go_wp2_with (first | ((with_reducible refine gate_callee (f := 50) rfl ?_); refine goesL_ (some 90) rfl rfl Try.func50 (by kernel_rfl) rfl #[] rfl (by (try simp only [List.map_toArray, List.map_cons, List.map_nil]); first | done | rfl | (simp only [List.length_drop, List.length_take]; rfl)) ?_; (with_reducible refine (lathelaw02_works.calls  t433 _ A33.out).mono ?_); rintro e w' ⟨rfl, ⟨nd, rfl⟩⟩; refine ⟨_, rfl, ?_⟩))
                    go_ret
                    exact ⟨by first | rfl | (simp [errW_none, errW_some] <;> rfl) | (simp only [← hji25]; first | rfl | (simp [errW_none, errW_some] <;> rfl)) | (simp [*, errW_none, errW_some] <;> rfl), by repeat (first | (with_reducible first | exact HB.out | apply below_alloc | apply pw_below_drewN | apply below_drew1) | exact HB.out)⟩
                  · replace c32 := Bool.eq_false_iff.mpr c32
                    subst c32
                    have H1 : (if 0 ≤ (IntKind.u64.wrap (wrap64 (t418 - ji25))) then (if 0 ≤ (IntKind.u64.wrap (wrap64 (t420 - ji25))) then (if t431 < ji25 then (if 0 ≤ (IntKind.u64.wrap (wrap64 (ji25 - t431))) then (if t430 = (shl .i64 (wrap64 ((shl .i64 t417 (IntKind.u64.wrap (wrap64 (t418 - ji25)))) + (shl .i64 t419 (IntKind.u64.wrap (wrap64 (t420 - ji25)))))) (IntKind.u64.wrap (wrap64 (ji25 - t431)))) then ((lathelaw02_works.f).bind fun t434 => (some t434)) else (some false)) else (none)) else ((lathelaw02_even.f t430 (wrap64 ((shl .i64 t417 (IntKind.u64.wrap (wrap64 (t418 - ji25)))) + (shl .i64 t419 (IntKind.u64.wrap (wrap64 (t420 - ji25)))))) (wrap64 (t431 - ji25))).bind fun t435 => (if t435 = true then ((lathelaw02_works.f).bind fun t436 => (some t436)) else (some false)))) else (none)) else (none)) = some r := by rw [if_neg (show ¬ (false = true) by decide)] at H; exact H
                    clear H
                    have H := H1
                    clear H1
                    obtain ⟨ji34, hji34⟩ : ∃ j_ : Int, (IntKind.u64.wrap (wrap64 (t418 - ji25))) = j_ := ⟨_, rfl⟩
                    replace H : (if 0 ≤ (ji34) then (if 0 ≤ (IntKind.u64.wrap (wrap64 (t420 - ji25))) then (if t431 < ji25 then (if 0 ≤ (IntKind.u64.wrap (wrap64 (ji25 - t431))) then (if t430 = (shl .i64 (wrap64 ((shl .i64 t417 (ji34)) + (shl .i64 t419 (IntKind.u64.wrap (wrap64 (t420 - ji25)))))) (IntKind.u64.wrap (wrap64 (ji25 - t431)))) then ((lathelaw02_works.f).bind fun t434 => (some t434)) else (some false)) else (none)) else ((lathelaw02_even.f t430 (wrap64 ((shl .i64 t417 (ji34)) + (shl .i64 t419 (IntKind.u64.wrap (wrap64 (t420 - ji25)))))) (wrap64 (t431 - ji25))).bind fun t435 => (if t435 = true then ((lathelaw02_works.f).bind fun t436 => (some t436)) else (some false)))) else (none)) else (none)) = some r := by first | (rw [hji34] at H; exact H) | (simp only [hji34] at H ⊢; exact H)
                    by_cases c35 : 0 ≤ (ji34)
                    · rw [if_pos c35] at H
                      have c35b0 := eq_true c35
                      have c35b1 : decide (0 ≤ (ji34)) = true := decide_eq_true c35
                      clear c35
                      obtain ⟨ji36, hji36⟩ : ∃ j_ : Int, (shl .i64 t417 (ji34)) = j_ := ⟨_, rfl⟩
                      replace H : (if 0 ≤ (IntKind.u64.wrap (wrap64 (t420 - ji25))) then (if t431 < ji25 then (if 0 ≤ (IntKind.u64.wrap (wrap64 (ji25 - t431))) then (if t430 = (shl .i64 (wrap64 ((ji36) + (shl .i64 t419 (IntKind.u64.wrap (wrap64 (t420 - ji25)))))) (IntKind.u64.wrap (wrap64 (ji25 - t431)))) then ((lathelaw02_works.f).bind fun t434 => (some t434)) else (some false)) else (none)) else ((lathelaw02_even.f t430 (wrap64 ((ji36) + (shl .i64 t419 (IntKind.u64.wrap (wrap64 (t420 - ji25)))))) (wrap64 (t431 - ji25))).bind fun t435 => (if t435 = true then ((lathelaw02_works.f).bind fun t436 => (some t436)) else (some false)))) else (none)) = some r := by first | (rw [hji36] at H; exact H) | (simp only [hji36] at H ⊢; exact H)
                      have hji36_ : (IntKind.i64.wrap (t417 * 2 ^ min (ji34).toNat 64)) = ji36 := hji36
                      have hji36z : (ji34) ≤ 64 → (IntKind.i64.wrap (t417 * 2 ^ (ji34).toNat)) = ji36 := shl_small hji36
                      have hji36y : (wrap64 (t417 * 2 ^ min (ji34).toNat 64)) = ji36 := (i64_w _).symm.trans hji36_
                      have hji36x : (ji34) ≤ 64 → (wrap64 (t417 * 2 ^ (ji34).toNat)) = ji36 := fun h_ => (i64_w _).symm.trans (hji36z h_)
                      obtain ⟨ji37, hji37⟩ : ∃ j_ : Int, (IntKind.u64.wrap (wrap64 (t420 - ji25))) = j_ := ⟨_, rfl⟩
                      replace H : (if 0 ≤ (ji37) then (if t431 < ji25 then (if 0 ≤ (IntKind.u64.wrap (wrap64 (ji25 - t431))) then (if t430 = (shl .i64 (wrap64 ((ji36) + (shl .i64 t419 (ji37)))) (IntKind.u64.wrap (wrap64 (ji25 - t431)))) then ((lathelaw02_works.f).bind fun t434 => (some t434)) else (some false)) else (none)) else ((lathelaw02_even.f t430 (wrap64 ((ji36) + (shl .i64 t419 (ji37)))) (wrap64 (t431 - ji25))).bind fun t435 => (if t435 = true then ((lathelaw02_works.f).bind fun t436 => (some t436)) else (some false)))) else (none)) = some r := by first | (rw [hji37] at H; exact H) | (simp only [hji37] at H ⊢; exact H)
                      by_cases c38 : 0 ≤ (ji37)
                      · rw [if_pos c38] at H
                        have c38b0 := eq_true c38
                        have c38b1 : decide (0 ≤ (ji37)) = true := decide_eq_true c38
                        clear c38
                        obtain ⟨ji39, hji39⟩ : ∃ j_ : Int, (shl .i64 t419 (ji37)) = j_ := ⟨_, rfl⟩
                        replace H : (if t431 < ji25 then (if 0 ≤ (IntKind.u64.wrap (wrap64 (ji25 - t431))) then (if t430 = (shl .i64 (wrap64 ((ji36) + (ji39))) (IntKind.u64.wrap (wrap64 (ji25 - t431)))) then ((lathelaw02_works.f).bind fun t434 => (some t434)) else (some false)) else (none)) else ((lathelaw02_even.f t430 (wrap64 ((ji36) + (ji39))) (wrap64 (t431 - ji25))).bind fun t435 => (if t435 = true then ((lathelaw02_works.f).bind fun t436 => (some t436)) else (some false)))) = some r := by first | (rw [hji39] at H; exact H) | (simp only [hji39] at H ⊢; exact H)
                        have hji39_ : (IntKind.i64.wrap (t419 * 2 ^ min (ji37).toNat 64)) = ji39 := hji39
                        have hji39z : (ji37) ≤ 64 → (IntKind.i64.wrap (t419 * 2 ^ (ji37).toNat)) = ji39 := shl_small hji39
                        have hji39y : (wrap64 (t419 * 2 ^ min (ji37).toNat 64)) = ji39 := (i64_w _).symm.trans hji39_
                        have hji39x : (ji37) ≤ 64 → (wrap64 (t419 * 2 ^ (ji37).toNat)) = ji39 := fun h_ => (i64_w _).symm.trans (hji39z h_)
                        by_cases c40 : t431 < ji25
                        · rw [if_pos c40] at H
                          have c40b0 : decide (t431 < ji25) = true := decide_eq_true c40
                          clear c40
                          obtain ⟨ji41, hji41⟩ : ∃ j_ : Int, (IntKind.u64.wrap (wrap64 (ji25 - t431))) = j_ := ⟨_, rfl⟩
                          replace H : (if 0 ≤ (ji41) then (if t430 = (shl .i64 (wrap64 ((ji36) + (ji39))) (ji41)) then ((lathelaw02_works.f).bind fun t434 => (some t434)) else (some false)) else (none)) = some r := by first | (rw [hji41] at H; exact H) | (simp only [hji41] at H ⊢; exact H)
                          by_cases c42 : 0 ≤ (ji41)
                          · rw [if_pos c42] at H
                            have c42b0 := eq_true c42
                            have c42b1 : decide (0 ≤ (ji41)) = true := decide_eq_true c42
                            clear c42
                            obtain ⟨ji43, hji43⟩ : ∃ j_ : Int, (shl .i64 (wrap64 ((ji36) + (ji39))) (ji41)) = j_ := ⟨_, rfl⟩
                            replace H : (if t430 = (ji43) then ((lathelaw02_works.f).bind fun t434 => (some t434)) else (some false)) = some r := by first | (rw [hji43] at H; exact H) | (simp only [hji43] at H ⊢; exact H)
                            have hji43_ : (IntKind.i64.wrap ((wrap64 ((ji36) + (ji39))) * 2 ^ min (ji41).toNat 64)) = ji43 := hji43
                            have hji43z : (ji41) ≤ 64 → (IntKind.i64.wrap ((wrap64 ((ji36) + (ji39))) * 2 ^ (ji41).toNat)) = ji43 := shl_small hji43
                            have hji43y : (wrap64 ((wrap64 ((ji36) + (ji39))) * 2 ^ min (ji41).toNat 64)) = ji43 := (i64_w _).symm.trans hji43_
                            have hji43x : (ji41) ≤ 64 → (wrap64 ((wrap64 ((ji36) + (ji39))) * 2 ^ (ji41).toNat)) = ji43 := fun h_ => (i64_w _).symm.trans (hji43z h_)
                            by_cases c44 : t430 = (ji43)
                            · rw [if_pos c44] at H
                              have c44b0 : (t430 == (ji43)) = true := beq_iff_eq.mpr c44
                              have c44b1 : (t430 != (ji43)) = false := bne_eq_false_iff_eq.mpr c44
                              clear c44
                              replace H := Option.bind_eq_some_iff.mp H
                              obtain ⟨t434, A450, H⟩ := H
                              replace H : (some t434) = some r := H
                              have A45 := Aside0.mk A450
                              clear A450
                              obtain rfl := Option.some.inj H
                              go_wp2_with (first | (go_at_call 50; (with_reducible refine (lathelaw02_works.calls  t434 _ A45.out).mono ?_); clear A45; rintro e w' ⟨rfl, ⟨nd, rfl⟩⟩))
                              go_ret
                              exact ⟨by first | rfl | (simp [errW_none, errW_some] <;> rfl) | (simp only [← hji25, ← hji34, ← hji36, ← hji37, ← hji39, ← hji41, ← hji43]; first | rfl | (simp [errW_none, errW_some] <;> rfl)) | (simp [*, errW_none, errW_some] <;> rfl), by repeat (first | (with_reducible first | exact HB.out | apply below_alloc | apply pw_below_drewN | apply below_drew1) | exact HB.out)⟩
                            · rw [if_neg c44] at H
                              have c44b0 : (t430 == (ji43)) = false := beq_eq_false_iff_ne.mpr c44
                              have c44b1 : (t430 != (ji43)) = true := bne_iff_ne.mpr c44
                              obtain rfl := Option.some.inj H
                              go_wp2
                              go_ret
                              exact ⟨by first | rfl | (simp [errW_none, errW_some] <;> rfl) | (simp only [← hji25, ← hji34, ← hji36, ← hji37, ← hji39, ← hji41, ← hji43]; first | rfl | (simp [errW_none, errW_some] <;> rfl)) | (simp [*, errW_none, errW_some] <;> rfl), by repeat (first | (with_reducible first | exact HB.out | apply below_alloc | apply pw_below_drewN | apply below_drew1) | exact HB.out)⟩
                          · rw [if_neg c42] at H
                            exact absurd H (by simp)
                        · rw [if_neg c40] at H
                          have c40b0 : decide (t431 < ji25) = false := decide_eq_false c40
                          clear c40
                          replace H := Option.bind_eq_some_iff.mp H
                          obtain ⟨t435, A460, H⟩ := H
                          replace H : (if t435 = true then ((lathelaw02_works.f).bind fun t436 => (some t436)) else (some false)) = some r := H
                          have A46 := Aside0.mk A460
                          clear A460
                          by_cases c47 : t435 = true
                          · subst c47
                            have H1 : ((lathelaw02_works.f).bind fun t436 => (some t436)) = some r := by rw [if_pos rfl] at H; exact H
                            clear H
                            have H := H1
                            clear H1
                            replace H := Option.bind_eq_some_iff.mp H
                            obtain ⟨t436, A480, H⟩ := H
                            replace H : (some t436) = some r := H
                            have A48 := Aside0.mk A480
                            clear A480
                            obtain rfl := Option.some.inj H
                            go_wp2_with (first | ((with_reducible refine gate_callee (f := 59) rfl ?_); refine goesL_ (some 123) rfl rfl Try.func59 (by kernel_rfl) rfl #[.int .i64 t430, .int .i64 (wrap64 ((ji36) + (ji39))), .int .i64 (wrap64 (t431 - ji25))] rfl (by (try simp only [List.map_toArray, List.map_cons, List.map_nil]); first | done | (simp only [hji25, hji36, hji39]; rfl) | rfl | (simp only [List.length_drop, List.length_take]; rfl)) ?_; (with_reducible refine (lathelaw02_even.calls t430 (wrap64 ((ji36) + (ji39))) (wrap64 (t431 - ji25)) true _ A46.out).mono ?_); rintro e w' ⟨rfl, ⟨nd, rfl⟩⟩; refine ⟨_, rfl, ?_⟩) | (go_at_call 50; (with_reducible refine (lathelaw02_works.calls  t436 _ A48.out).mono ?_); clear A48; rintro e w' ⟨rfl, ⟨nd, rfl⟩⟩))
                            go_ret
                            exact ⟨by first | rfl | (simp [errW_none, errW_some] <;> rfl) | (simp only [← hji25, ← hji34, ← hji36, ← hji37, ← hji39]; first | rfl | (simp [errW_none, errW_some] <;> rfl)) | (simp [*, errW_none, errW_some] <;> rfl), by repeat (first | (with_reducible first | exact HB.out | apply below_alloc | apply pw_below_drewN | apply below_drew1) | exact HB.out)⟩
                          · replace c47 := Bool.eq_false_iff.mpr c47
                            subst c47
                            have H1 : (some false) = some r := by rw [if_neg (show ¬ (false = true) by decide)] at H; exact H
                            clear H
                            have H := H1
                            clear H1
                            obtain rfl := Option.some.inj H
                            go_wp2_with (first | ((with_reducible refine gate_callee (f := 59) rfl ?_); refine goesL_ (some 123) rfl rfl Try.func59 (by kernel_rfl) rfl #[.int .i64 t430, .int .i64 (wrap64 ((ji36) + (ji39))), .int .i64 (wrap64 (t431 - ji25))] rfl (by (try simp only [List.map_toArray, List.map_cons, List.map_nil]); first | done | (simp only [hji25, hji36, hji39]; rfl) | rfl | (simp only [List.length_drop, List.length_take]; rfl)) ?_; (with_reducible refine (lathelaw02_even.calls t430 (wrap64 ((ji36) + (ji39))) (wrap64 (t431 - ji25)) false _ A46.out).mono ?_); rintro e w' ⟨rfl, ⟨nd, rfl⟩⟩; refine ⟨_, rfl, ?_⟩))
                            go_ret
                            exact ⟨by first | rfl | (simp [errW_none, errW_some] <;> rfl) | (simp only [← hji25, ← hji34, ← hji36, ← hji37, ← hji39]; first | rfl | (simp [errW_none, errW_some] <;> rfl)) | (simp [*, errW_none, errW_some] <;> rfl), by repeat (first | (with_reducible first | exact HB.out | apply below_alloc | apply pw_below_drewN | apply below_drew1) | exact HB.out)⟩
                      · rw [if_neg c38] at H
                        exact absurd H (by simp)
                    · rw [if_neg c35] at H
                      exact absurd H (by simp)

/-- THE ONE PURE STATEMENT of lathelaw02_FloatNear: yours. -/
def lathelaw02_FloatNear.Pure : Prop := ∀ (a0 : Int) (a1 : Int), (Lit.int .u32 a0).wf = true → (Lit.int .u32 a1).wf = true → ∃ k, lathelaw02_FloatNear.f k a0 a1 = some true
theorem lathelaw02_FloatNear.walk (P : lathelaw02_FloatNear.Pure) (a0 : Int) (a1 : Int) (w : World) (w0 : (Lit.int .u32 a0).wf = true) (w1 : (Lit.int .u32 a1).wf = true) :
    Calls Try.prog 12 #[.int .u32 a0, .int .u32 a1] w fun e w' => e = .returned (.bool true) ∧ Below w.heap.size w w' := by
  obtain ⟨k, h⟩ := P a0 a1 w0 w1
  refine (lathelaw02_FloatNear.calls k a0 a1 true w h).mono ?_
  rintro e w' ⟨rfl, hd⟩
  exact ⟨rfl, hd⟩

end Go.Proofs.Ytcegmbplgghjnaa.PF
