/- The functions of the program that a statement reaches, as plain functions, and that the machine's calls do what these say. No condition. (Printed by a program.) -/
import Derived.Test.YtcegmbplgghjnaaPFx0
import Derived.Test.YtcegmbplgghjnaaPFx4
import Derived.Test.YtcegmbplgghjnaaPFx11
import Derived.Test.YtcegmbplgghjnaaPFx16
namespace Go.Proofs.Ytcegmbplgghjnaa.PF
open Go.RowKit Go.Proofs.YtcegmbplgghjnaaW.PrintWords Go.Proofs.YtcegmbplgghjnaaW.PrintLast Go.Proofs.YtcegmbplgghjnaaW.PrintMore
attribute [local go_sem] max2_int min2_int max_two min_two max_three min_three max_four min_four   -- for this text's walks alone
set_option linter.unusedVariables false
set_option linter.unusedSimpArgs false

/-! ### lathelaw02_FloatNearDiv: function 13 -/
def lathelaw02_FloatNearDiv.j0 : Nat → Int → Int → Int → Int → Bool → Option (Bool)
  | 0, _, _, _, _, _ => none
  | k + 1, x6, x8, x10, x12, x61 => if x61 = true then ((lathelaw02_works.f).bind fun t447 => (some t447)) else (if x8 < 0 then (if 0 ≤ (IntKind.u64.wrap (x12)) then (if (wrap64 ((shl .i64 (wrap64 (-x6)) (IntKind.u64.wrap (x12))) - (wrap64 (x10 * (wrap64 (-x8)))))) < 0 then (if (wrap64 (2 * (wrap64 (-(wrap64 ((shl .i64 (wrap64 (-x6)) (IntKind.u64.wrap (x12))) - (wrap64 (x10 * (wrap64 (-x8)))))))))) < (wrap64 (-x8)) then ((lathelaw02_works.f).bind fun t448 => (some t448)) else (if (wrap64 (2 * (wrap64 (-(wrap64 ((shl .i64 (wrap64 (-x6)) (IntKind.u64.wrap (x12))) - (wrap64 (x10 * (wrap64 (-x8)))))))))) = (wrap64 (-x8)) then (if (Int.tmod x10 2) = 0 then ((lathelaw02_works.f).bind fun t449 => (some t449)) else (some false)) else (some false))) else (if (wrap64 (2 * (wrap64 ((shl .i64 (wrap64 (-x6)) (IntKind.u64.wrap (x12))) - (wrap64 (x10 * (wrap64 (-x8)))))))) < (wrap64 (-x8)) then ((lathelaw02_works.f).bind fun t450 => (some t450)) else (if (wrap64 (2 * (wrap64 ((shl .i64 (wrap64 (-x6)) (IntKind.u64.wrap (x12))) - (wrap64 (x10 * (wrap64 (-x8)))))))) = (wrap64 (-x8)) then (if (Int.tmod x10 2) = 0 then ((lathelaw02_works.f).bind fun t451 => (some t451)) else (some false)) else (some false)))) else (none)) else (if 0 ≤ (IntKind.u64.wrap (x12)) then (if (wrap64 ((shl .i64 x6 (IntKind.u64.wrap (x12))) - (wrap64 (x10 * x8)))) < 0 then (if (wrap64 (2 * (wrap64 (-(wrap64 ((shl .i64 x6 (IntKind.u64.wrap (x12))) - (wrap64 (x10 * x8)))))))) < x8 then ((lathelaw02_works.f).bind fun t452 => (some t452)) else (if (wrap64 (2 * (wrap64 (-(wrap64 ((shl .i64 x6 (IntKind.u64.wrap (x12))) - (wrap64 (x10 * x8)))))))) = x8 then (if (Int.tmod x10 2) = 0 then ((lathelaw02_works.f).bind fun t453 => (some t453)) else (some false)) else (some false))) else (if (wrap64 (2 * (wrap64 ((shl .i64 x6 (IntKind.u64.wrap (x12))) - (wrap64 (x10 * x8)))))) < x8 then ((lathelaw02_works.f).bind fun t454 => (some t454)) else (if (wrap64 (2 * (wrap64 ((shl .i64 x6 (IntKind.u64.wrap (x12))) - (wrap64 (x10 * x8)))))) = x8 then (if (Int.tmod x10 2) = 0 then ((lathelaw02_works.f).bind fun t455 => (some t455)) else (some false)) else (some false)))) else (none)))
def lathelaw02_FloatNearDiv.f (k : Nat) (a0 : Int) (a1 : Int) : Option (Bool) := (float_Div.f a0 a1).bind fun t437 => ((lathelaw02_parts.f a0).bind fun bt438 => ((lathelaw02_parts.f a1).bind fun bt440 => ((lathelaw02_parts.f t437).bind fun bt442 => ((float_Finite.f a0).bind fun t444 => (if t444 = true then ((float_Finite.f a1).bind fun t445 => (if t445 = true then ((float_Finite.f t437).bind fun t446 => (if t446 = true then (if bt440.1 = 0 then (lathelaw02_FloatNearDiv.j0 k bt438.1 bt440.1 bt442.1 (wrap64 ((wrap64 (bt438.2 - bt440.2)) - bt442.2)) true) else (if (wrap64 ((wrap64 (bt438.2 - bt440.2)) - bt442.2)) < 0 then (lathelaw02_FloatNearDiv.j0 k bt438.1 bt440.1 bt442.1 (wrap64 ((wrap64 (bt438.2 - bt440.2)) - bt442.2)) true) else (lathelaw02_FloatNearDiv.j0 k bt438.1 bt440.1 bt442.1 (wrap64 ((wrap64 (bt438.2 - bt440.2)) - bt442.2)) (decide ((wrap64 ((wrap64 (bt438.2 - bt440.2)) - bt442.2)) > 36))))) else (lathelaw02_FloatNearDiv.j0 k bt438.1 bt440.1 bt442.1 (wrap64 ((wrap64 (bt438.2 - bt440.2)) - bt442.2)) true))) else (lathelaw02_FloatNearDiv.j0 k bt438.1 bt440.1 bt442.1 (wrap64 ((wrap64 (bt438.2 - bt440.2)) - bt442.2)) true))) else (lathelaw02_FloatNearDiv.j0 k bt438.1 bt440.1 bt442.1 (wrap64 ((wrap64 (bt438.2 - bt440.2)) - bt442.2)) true))))))
theorem lathelaw02_FloatNearDiv.mono_l : ∀ k, (∀ y0 y1 y2 y3 y4, LeO (lathelaw02_FloatNearDiv.j0 k y0 y1 y2 y3 y4) (lathelaw02_FloatNearDiv.j0 (k + 1) y0 y1 y2 y3 y4))
  | 0 => fun _ _ _ _ _ r h => by simp [lathelaw02_FloatNearDiv.j0] at h
  | k + 1 => by
    have ih0 := lathelaw02_FloatNearDiv.mono_l k
    · intro y0 y1 y2 y3 y4
      unfold lathelaw02_FloatNearDiv.j0
      repeat' first
      | (with_reducible exact ih0 _ _ _ _ _)
      | (with_reducible exact LeO.refl _)
      | (with_reducible exact LeO.none _)
      | (with_reducible refine LeO.ite ?_ ?_)
      | (with_reducible refine LeO.bind ?_ (fun _ => ?_))
      | exact ih0 _ _ _ _ _
      | exact LeO.none _
      | refine LeO.ite ?_ ?_
      | refine LeO.bind ?_ (fun _ => ?_)
theorem lathelaw02_FloatNearDiv.mono : ∀ a0 a1 k, LeO (lathelaw02_FloatNearDiv.f k a0 a1) (lathelaw02_FloatNearDiv.f (k + 1) a0 a1) := by
  intro a0 a1 k
  have ih0 := lathelaw02_FloatNearDiv.mono_l k
  unfold lathelaw02_FloatNearDiv.f
  repeat' first
      | (with_reducible exact ih0 _ _ _ _ _)
      | (with_reducible exact LeO.refl _)
      | (with_reducible exact LeO.none _)
      | (with_reducible refine LeO.ite ?_ ?_)
      | (with_reducible refine LeO.bind ?_ (fun _ => ?_))
      | exact ih0 _ _ _ _ _
      | exact LeO.none _
      | refine LeO.ite ?_ ?_
      | refine LeO.bind ?_ (fun _ => ?_)
set_option maxHeartbeats 8000000 in
set_option maxRecDepth 100000 in
theorem lathelaw02_FloatNearDiv.calls (k : Nat) (a0 : Int) (a1 : Int) (r : Bool) (w : World) (h : lathelaw02_FloatNearDiv.f k a0 a1 = some r) :
    Calls Try.prog 13 #[.int .u32 a0, .int .u32 a1] w fun e w' => e = .returned (.bool r) ∧ Below w.heap.size w w' := by
  have HB := Aside0.mk (Below.refl w.heap.size w)
  have H : ((float_Div.f a0 a1).bind fun t437 => ((lathelaw02_parts.f a0).bind fun bt438 => ((lathelaw02_parts.f a1).bind fun bt440 => ((lathelaw02_parts.f t437).bind fun bt442 => ((float_Finite.f a0).bind fun t444 => (if t444 = true then ((float_Finite.f a1).bind fun t445 => (if t445 = true then ((float_Finite.f t437).bind fun t446 => (if t446 = true then (if bt440.1 = 0 then (lathelaw02_FloatNearDiv.j0 k bt438.1 bt440.1 bt442.1 (wrap64 ((wrap64 (bt438.2 - bt440.2)) - bt442.2)) true) else (if (wrap64 ((wrap64 (bt438.2 - bt440.2)) - bt442.2)) < 0 then (lathelaw02_FloatNearDiv.j0 k bt438.1 bt440.1 bt442.1 (wrap64 ((wrap64 (bt438.2 - bt440.2)) - bt442.2)) true) else (lathelaw02_FloatNearDiv.j0 k bt438.1 bt440.1 bt442.1 (wrap64 ((wrap64 (bt438.2 - bt440.2)) - bt442.2)) (decide ((wrap64 ((wrap64 (bt438.2 - bt440.2)) - bt442.2)) > 36))))) else (lathelaw02_FloatNearDiv.j0 k bt438.1 bt440.1 bt442.1 (wrap64 ((wrap64 (bt438.2 - bt440.2)) - bt442.2)) true))) else (lathelaw02_FloatNearDiv.j0 k bt438.1 bt440.1 bt442.1 (wrap64 ((wrap64 (bt438.2 - bt440.2)) - bt442.2)) true))) else (lathelaw02_FloatNearDiv.j0 k bt438.1 bt440.1 bt442.1 (wrap64 ((wrap64 (bt438.2 - bt440.2)) - bt442.2)) true))))))) = some r := h
  clear h
  replace H := Option.bind_eq_some_iff.mp H
  obtain ⟨t437, A30, H⟩ := H
  replace H : ((lathelaw02_parts.f a0).bind fun bt438 => ((lathelaw02_parts.f a1).bind fun bt440 => ((lathelaw02_parts.f t437).bind fun bt442 => ((float_Finite.f a0).bind fun t444 => (if t444 = true then ((float_Finite.f a1).bind fun t445 => (if t445 = true then ((float_Finite.f t437).bind fun t446 => (if t446 = true then (if bt440.1 = 0 then (lathelaw02_FloatNearDiv.j0 k bt438.1 bt440.1 bt442.1 (wrap64 ((wrap64 (bt438.2 - bt440.2)) - bt442.2)) true) else (if (wrap64 ((wrap64 (bt438.2 - bt440.2)) - bt442.2)) < 0 then (lathelaw02_FloatNearDiv.j0 k bt438.1 bt440.1 bt442.1 (wrap64 ((wrap64 (bt438.2 - bt440.2)) - bt442.2)) true) else (lathelaw02_FloatNearDiv.j0 k bt438.1 bt440.1 bt442.1 (wrap64 ((wrap64 (bt438.2 - bt440.2)) - bt442.2)) (decide ((wrap64 ((wrap64 (bt438.2 - bt440.2)) - bt442.2)) > 36))))) else (lathelaw02_FloatNearDiv.j0 k bt438.1 bt440.1 bt442.1 (wrap64 ((wrap64 (bt438.2 - bt440.2)) - bt442.2)) true))) else (lathelaw02_FloatNearDiv.j0 k bt438.1 bt440.1 bt442.1 (wrap64 ((wrap64 (bt438.2 - bt440.2)) - bt442.2)) true))) else (lathelaw02_FloatNearDiv.j0 k bt438.1 bt440.1 bt442.1 (wrap64 ((wrap64 (bt438.2 - bt440.2)) - bt442.2)) true)))))) = some r := H
  have A3 := Aside0.mk A30
  clear A30
  replace H := Option.bind_eq_some_iff.mp H
  obtain ⟨⟨t438, t439⟩, A40, H⟩ := H
  replace H : ((lathelaw02_parts.f a1).bind fun bt440 => ((lathelaw02_parts.f t437).bind fun bt442 => ((float_Finite.f a0).bind fun t444 => (if t444 = true then ((float_Finite.f a1).bind fun t445 => (if t445 = true then ((float_Finite.f t437).bind fun t446 => (if t446 = true then (if bt440.1 = 0 then (lathelaw02_FloatNearDiv.j0 k t438 bt440.1 bt442.1 (wrap64 ((wrap64 (t439 - bt440.2)) - bt442.2)) true) else (if (wrap64 ((wrap64 (t439 - bt440.2)) - bt442.2)) < 0 then (lathelaw02_FloatNearDiv.j0 k t438 bt440.1 bt442.1 (wrap64 ((wrap64 (t439 - bt440.2)) - bt442.2)) true) else (lathelaw02_FloatNearDiv.j0 k t438 bt440.1 bt442.1 (wrap64 ((wrap64 (t439 - bt440.2)) - bt442.2)) (decide ((wrap64 ((wrap64 (t439 - bt440.2)) - bt442.2)) > 36))))) else (lathelaw02_FloatNearDiv.j0 k t438 bt440.1 bt442.1 (wrap64 ((wrap64 (t439 - bt440.2)) - bt442.2)) true))) else (lathelaw02_FloatNearDiv.j0 k t438 bt440.1 bt442.1 (wrap64 ((wrap64 (t439 - bt440.2)) - bt442.2)) true))) else (lathelaw02_FloatNearDiv.j0 k t438 bt440.1 bt442.1 (wrap64 ((wrap64 (t439 - bt440.2)) - bt442.2)) true))))) = some r := H
  have A4 := Aside0.mk A40
  clear A40
  replace H := Option.bind_eq_some_iff.mp H
  obtain ⟨⟨t440, t441⟩, A50, H⟩ := H
  replace H : ((lathelaw02_parts.f t437).bind fun bt442 => ((float_Finite.f a0).bind fun t444 => (if t444 = true then ((float_Finite.f a1).bind fun t445 => (if t445 = true then ((float_Finite.f t437).bind fun t446 => (if t446 = true then (if t440 = 0 then (lathelaw02_FloatNearDiv.j0 k t438 t440 bt442.1 (wrap64 ((wrap64 (t439 - t441)) - bt442.2)) true) else (if (wrap64 ((wrap64 (t439 - t441)) - bt442.2)) < 0 then (lathelaw02_FloatNearDiv.j0 k t438 t440 bt442.1 (wrap64 ((wrap64 (t439 - t441)) - bt442.2)) true) else (lathelaw02_FloatNearDiv.j0 k t438 t440 bt442.1 (wrap64 ((wrap64 (t439 - t441)) - bt442.2)) (decide ((wrap64 ((wrap64 (t439 - t441)) - bt442.2)) > 36))))) else (lathelaw02_FloatNearDiv.j0 k t438 t440 bt442.1 (wrap64 ((wrap64 (t439 - t441)) - bt442.2)) true))) else (lathelaw02_FloatNearDiv.j0 k t438 t440 bt442.1 (wrap64 ((wrap64 (t439 - t441)) - bt442.2)) true))) else (lathelaw02_FloatNearDiv.j0 k t438 t440 bt442.1 (wrap64 ((wrap64 (t439 - t441)) - bt442.2)) true)))) = some r := H
  have A5 := Aside0.mk A50
  clear A50
  replace H := Option.bind_eq_some_iff.mp H
  obtain ⟨⟨t442, t443⟩, A60, H⟩ := H
  replace H : ((float_Finite.f a0).bind fun t444 => (if t444 = true then ((float_Finite.f a1).bind fun t445 => (if t445 = true then ((float_Finite.f t437).bind fun t446 => (if t446 = true then (if t440 = 0 then (lathelaw02_FloatNearDiv.j0 k t438 t440 t442 (wrap64 ((wrap64 (t439 - t441)) - t443)) true) else (if (wrap64 ((wrap64 (t439 - t441)) - t443)) < 0 then (lathelaw02_FloatNearDiv.j0 k t438 t440 t442 (wrap64 ((wrap64 (t439 - t441)) - t443)) true) else (lathelaw02_FloatNearDiv.j0 k t438 t440 t442 (wrap64 ((wrap64 (t439 - t441)) - t443)) (decide ((wrap64 ((wrap64 (t439 - t441)) - t443)) > 36))))) else (lathelaw02_FloatNearDiv.j0 k t438 t440 t442 (wrap64 ((wrap64 (t439 - t441)) - t443)) true))) else (lathelaw02_FloatNearDiv.j0 k t438 t440 t442 (wrap64 ((wrap64 (t439 - t441)) - t443)) true))) else (lathelaw02_FloatNearDiv.j0 k t438 t440 t442 (wrap64 ((wrap64 (t439 - t441)) - t443)) true))) = some r := H
  have A6 := Aside0.mk A60
  clear A60
  have HC7 := Aside0.mk H
  clear H
  go_enter Try.func13, Try.ntmps13
  go_upto_region 6 with (first | ((with_reducible refine gate_callee (f := 51) rfl ?_); refine goesL_ (some 16) rfl rfl Try.func51 (by kernel_rfl) rfl #[.int .u32 a0, .int .u32 a1] rfl (by (try simp only [List.map_toArray, List.map_cons, List.map_nil]); first | done | rfl | (simp only [List.length_drop, List.length_take]; rfl)) ?_; (with_reducible refine (float_Div.calls a0 a1 t437 _ A3.out).mono ?_); rintro e w' ⟨rfl, ⟨nd, rfl⟩⟩; refine ⟨_, rfl, ?_⟩) | ((with_reducible refine gate_callee (f := 57) rfl ?_); refine goesL_ (some 19) rfl rfl Try.func57 (by kernel_rfl) rfl #[.int .u32 a0] rfl (by (try simp only [List.map_toArray, List.map_cons, List.map_nil]); first | done | rfl | (simp only [List.length_drop, List.length_take]; rfl)) ?_; (with_reducible refine (lathelaw02_parts.calls a0 t438 t439 _ A4.out).mono ?_); rintro e w8 ⟨rfl, hb⟩; refine ⟨_, rfl, ?_⟩; have n0_ := Aside0.mk (below_step (by repeat (first | (with_reducible first | exact HB.out | apply below_alloc | apply pw_below_drewN | apply below_drew1) | exact HB.out)) hb); clear HB; have HB := n0_; clear n0_; (try clear hb); (try clear hb2); (try clear hk); (try clear hi)) | ((with_reducible refine gate_callee (f := 57) rfl ?_); refine goesL_ (some 24) rfl rfl Try.func57 (by kernel_rfl) rfl #[.int .u32 a1] rfl (by (try simp only [List.map_toArray, List.map_cons, List.map_nil]); first | done | rfl | (simp only [List.length_drop, List.length_take]; rfl)) ?_; (with_reducible refine (lathelaw02_parts.calls a1 t440 t441 _ A5.out).mono ?_); rintro e w9 ⟨rfl, hb⟩; refine ⟨_, rfl, ?_⟩; have n0_ := Aside0.mk (below_step (by repeat (first | (with_reducible first | exact HB.out | apply below_alloc | apply pw_below_drewN | apply below_drew1) | exact HB.out)) hb); clear HB; have HB := n0_; clear n0_; (try clear hb); (try clear hb2); (try clear hk); (try clear hi)) | ((with_reducible refine gate_callee (f := 57) rfl ?_); refine goesL_ (some 29) rfl rfl Try.func57 (by kernel_rfl) rfl #[.int .u32 t437] rfl (by (try simp only [List.map_toArray, List.map_cons, List.map_nil]); first | done | rfl | (simp only [List.length_drop, List.length_take]; rfl)) ?_; (with_reducible refine (lathelaw02_parts.calls t437 t442 t443 _ A6.out).mono ?_); rintro e w10 ⟨rfl, hb⟩; refine ⟨_, rfl, ?_⟩; have n0_ := Aside0.mk (below_step (by repeat (first | (with_reducible first | exact HB.out | apply below_alloc | apply pw_below_drewN | apply below_drew1) | exact HB.out)) hb); clear HB; have HB := n0_; clear n0_; (try clear hb); (try clear hb2); (try clear hk); (try clear hi)))
  (try simp only [Act.put, List.setIfInBounds_toArray, List.set_cons_zero, List.set_cons_succ])
  go_cut [61] (fun v61 wc => ∃ (kq : Nat) (x61_6 : Bool), v61 = .bool x61_6 ∧ Aside0 (lathelaw02_FloatNearDiv.j0 kq t438 t440 t442 (wrap64 ((wrap64 (t439 - t441)) - t443)) x61_6 = some r) ∧ Aside0 (kq ≤ k) ∧ Aside0 (Below w.heap.size w wc))
  case first =>
    have H := HC7.out
    clear HC7
    replace H := Option.bind_eq_some_iff.mp H
    obtain ⟨t444, A110, H⟩ := H
    replace H : (if t444 = true then ((float_Finite.f a1).bind fun t445 => (if t445 = true then ((float_Finite.f t437).bind fun t446 => (if t446 = true then (if t440 = 0 then (lathelaw02_FloatNearDiv.j0 k t438 t440 t442 (wrap64 ((wrap64 (t439 - t441)) - t443)) true) else (if (wrap64 ((wrap64 (t439 - t441)) - t443)) < 0 then (lathelaw02_FloatNearDiv.j0 k t438 t440 t442 (wrap64 ((wrap64 (t439 - t441)) - t443)) true) else (lathelaw02_FloatNearDiv.j0 k t438 t440 t442 (wrap64 ((wrap64 (t439 - t441)) - t443)) (decide ((wrap64 ((wrap64 (t439 - t441)) - t443)) > 36))))) else (lathelaw02_FloatNearDiv.j0 k t438 t440 t442 (wrap64 ((wrap64 (t439 - t441)) - t443)) true))) else (lathelaw02_FloatNearDiv.j0 k t438 t440 t442 (wrap64 ((wrap64 (t439 - t441)) - t443)) true))) else (lathelaw02_FloatNearDiv.j0 k t438 t440 t442 (wrap64 ((wrap64 (t439 - t441)) - t443)) true)) = some r := H
    have A11 := Aside0.mk A110
    clear A110
    by_cases c12 : t444 = true
    · subst c12
      have H1 : ((float_Finite.f a1).bind fun t445 => (if t445 = true then ((float_Finite.f t437).bind fun t446 => (if t446 = true then (if t440 = 0 then (lathelaw02_FloatNearDiv.j0 k t438 t440 t442 (wrap64 ((wrap64 (t439 - t441)) - t443)) true) else (if (wrap64 ((wrap64 (t439 - t441)) - t443)) < 0 then (lathelaw02_FloatNearDiv.j0 k t438 t440 t442 (wrap64 ((wrap64 (t439 - t441)) - t443)) true) else (lathelaw02_FloatNearDiv.j0 k t438 t440 t442 (wrap64 ((wrap64 (t439 - t441)) - t443)) (decide ((wrap64 ((wrap64 (t439 - t441)) - t443)) > 36))))) else (lathelaw02_FloatNearDiv.j0 k t438 t440 t442 (wrap64 ((wrap64 (t439 - t441)) - t443)) true))) else (lathelaw02_FloatNearDiv.j0 k t438 t440 t442 (wrap64 ((wrap64 (t439 - t441)) - t443)) true))) = some r := by rw [if_pos rfl] at H; exact H
      clear H
      have H := H1
      clear H1
      replace H := Option.bind_eq_some_iff.mp H
      obtain ⟨t445, A130, H⟩ := H
      replace H : (if t445 = true then ((float_Finite.f t437).bind fun t446 => (if t446 = true then (if t440 = 0 then (lathelaw02_FloatNearDiv.j0 k t438 t440 t442 (wrap64 ((wrap64 (t439 - t441)) - t443)) true) else (if (wrap64 ((wrap64 (t439 - t441)) - t443)) < 0 then (lathelaw02_FloatNearDiv.j0 k t438 t440 t442 (wrap64 ((wrap64 (t439 - t441)) - t443)) true) else (lathelaw02_FloatNearDiv.j0 k t438 t440 t442 (wrap64 ((wrap64 (t439 - t441)) - t443)) (decide ((wrap64 ((wrap64 (t439 - t441)) - t443)) > 36))))) else (lathelaw02_FloatNearDiv.j0 k t438 t440 t442 (wrap64 ((wrap64 (t439 - t441)) - t443)) true))) else (lathelaw02_FloatNearDiv.j0 k t438 t440 t442 (wrap64 ((wrap64 (t439 - t441)) - t443)) true)) = some r := H
      have A13 := Aside0.mk A130
      clear A130
      by_cases c14 : t445 = true
      · subst c14
        have H1 : ((float_Finite.f t437).bind fun t446 => (if t446 = true then (if t440 = 0 then (lathelaw02_FloatNearDiv.j0 k t438 t440 t442 (wrap64 ((wrap64 (t439 - t441)) - t443)) true) else (if (wrap64 ((wrap64 (t439 - t441)) - t443)) < 0 then (lathelaw02_FloatNearDiv.j0 k t438 t440 t442 (wrap64 ((wrap64 (t439 - t441)) - t443)) true) else (lathelaw02_FloatNearDiv.j0 k t438 t440 t442 (wrap64 ((wrap64 (t439 - t441)) - t443)) (decide ((wrap64 ((wrap64 (t439 - t441)) - t443)) > 36))))) else (lathelaw02_FloatNearDiv.j0 k t438 t440 t442 (wrap64 ((wrap64 (t439 - t441)) - t443)) true))) = some r := by rw [if_pos rfl] at H; exact H
        clear H
        have H := H1
        clear H1
        replace H := Option.bind_eq_some_iff.mp H
        obtain ⟨t446, A150, H⟩ := H
        replace H : (if t446 = true then (if t440 = 0 then (lathelaw02_FloatNearDiv.j0 k t438 t440 t442 (wrap64 ((wrap64 (t439 - t441)) - t443)) true) else (if (wrap64 ((wrap64 (t439 - t441)) - t443)) < 0 then (lathelaw02_FloatNearDiv.j0 k t438 t440 t442 (wrap64 ((wrap64 (t439 - t441)) - t443)) true) else (lathelaw02_FloatNearDiv.j0 k t438 t440 t442 (wrap64 ((wrap64 (t439 - t441)) - t443)) (decide ((wrap64 ((wrap64 (t439 - t441)) - t443)) > 36))))) else (lathelaw02_FloatNearDiv.j0 k t438 t440 t442 (wrap64 ((wrap64 (t439 - t441)) - t443)) true)) = some r := H
        have A15 := Aside0.mk A150
        clear A150
        by_cases c16 : t446 = true
        · subst c16
          have H1 : (if t440 = 0 then (lathelaw02_FloatNearDiv.j0 k t438 t440 t442 (wrap64 ((wrap64 (t439 - t441)) - t443)) true) else (if (wrap64 ((wrap64 (t439 - t441)) - t443)) < 0 then (lathelaw02_FloatNearDiv.j0 k t438 t440 t442 (wrap64 ((wrap64 (t439 - t441)) - t443)) true) else (lathelaw02_FloatNearDiv.j0 k t438 t440 t442 (wrap64 ((wrap64 (t439 - t441)) - t443)) (decide ((wrap64 ((wrap64 (t439 - t441)) - t443)) > 36))))) = some r := by rw [if_pos rfl] at H; exact H
          clear H
          have H := H1
          clear H1
          by_cases c17 : t440 = 0
          · rw [if_pos c17] at H
            have c17b0 : (t440 == 0) = true := beq_iff_eq.mpr c17
            have c17b1 : (t440 != 0) = false := bne_eq_false_iff_eq.mpr c17
            clear c17
            (first | rw [c17b0] | (simp only [i64_w, i32_w]; rw [c17b0]) | skip)
            have H' := Aside0.mk H
            clear H
            go_wp2_with (first | ((with_reducible refine gate_callee (f := 58) rfl ?_); refine goesL_ (some 38) rfl rfl Try.func58 (by kernel_rfl) rfl #[.int .u32 a0] rfl (by (try simp only [List.map_toArray, List.map_cons, List.map_nil]); first | done | rfl | (simp only [List.length_drop, List.length_take]; rfl)) ?_; (with_reducible refine (float_Finite.calls a0 true _ A11.out).mono ?_); rintro e w' ⟨rfl, ⟨nd, rfl⟩⟩; refine ⟨_, rfl, ?_⟩) | (go_at_call 58; (with_reducible refine (float_Finite.calls a1 true _ A13.out).mono ?_); clear A13; rintro e w' ⟨rfl, ⟨nd, rfl⟩⟩) | (go_at_call 58; (with_reducible refine (float_Finite.calls t437 true _ A15.out).mono ?_); clear A15; rintro e w' ⟨rfl, ⟨nd, rfl⟩⟩))
            go_meet
            case rel => exact ⟨_, (true), (by first | rfl | (simp; done) | (simp [*]; done)), H', ⟨by first | omega | exact Nat.le_refl _⟩, ⟨by repeat (first | (with_reducible first | exact HB.out | apply below_alloc | apply pw_below_drewN | apply below_drew1) | exact HB.out)⟩⟩
          · rw [if_neg c17] at H
            have c17b0 : (t440 == 0) = false := beq_eq_false_iff_ne.mpr c17
            have c17b1 : (t440 != 0) = true := bne_iff_ne.mpr c17
            (first | rw [c17b0] | (simp only [i64_w, i32_w]; rw [c17b0]) | skip)
            by_cases c18 : (wrap64 ((wrap64 (t439 - t441)) - t443)) < 0
            · rw [if_pos c18] at H
              have c18b0 : decide ((wrap64 ((wrap64 (t439 - t441)) - t443)) < 0) = true := decide_eq_true c18
              clear c18
              have H' := Aside0.mk H
              clear H
              go_wp2_with (first | ((with_reducible refine gate_callee (f := 58) rfl ?_); refine goesL_ (some 38) rfl rfl Try.func58 (by kernel_rfl) rfl #[.int .u32 a0] rfl (by (try simp only [List.map_toArray, List.map_cons, List.map_nil]); first | done | rfl | (simp only [List.length_drop, List.length_take]; rfl)) ?_; (with_reducible refine (float_Finite.calls a0 true _ A11.out).mono ?_); rintro e w' ⟨rfl, ⟨nd, rfl⟩⟩; refine ⟨_, rfl, ?_⟩) | (go_at_call 58; (with_reducible refine (float_Finite.calls a1 true _ A13.out).mono ?_); clear A13; rintro e w' ⟨rfl, ⟨nd, rfl⟩⟩) | (go_at_call 58; (with_reducible refine (float_Finite.calls t437 true _ A15.out).mono ?_); clear A15; rintro e w' ⟨rfl, ⟨nd, rfl⟩⟩))
              go_meet
              case rel => exact ⟨_, (true), (by first | rfl | (simp; done) | (simp [*]; done)), H', ⟨by first | omega | exact Nat.le_refl _⟩, ⟨by repeat (first | (with_reducible first | exact HB.out | apply below_alloc | apply pw_below_drewN | apply below_drew1) | exact HB.out)⟩⟩
            · rw [if_neg c18] at H
              have c18b0 : decide ((wrap64 ((wrap64 (t439 - t441)) - t443)) < 0) = false := decide_eq_false c18
              clear c18
              have H' := Aside0.mk H
              clear H
              go_wp2_with (first | ((with_reducible refine gate_callee (f := 58) rfl ?_); refine goesL_ (some 38) rfl rfl Try.func58 (by kernel_rfl) rfl #[.int .u32 a0] rfl (by (try simp only [List.map_toArray, List.map_cons, List.map_nil]); first | done | rfl | (simp only [List.length_drop, List.length_take]; rfl)) ?_; (with_reducible refine (float_Finite.calls a0 true _ A11.out).mono ?_); rintro e w' ⟨rfl, ⟨nd, rfl⟩⟩; refine ⟨_, rfl, ?_⟩) | (go_at_call 58; (with_reducible refine (float_Finite.calls a1 true _ A13.out).mono ?_); clear A13; rintro e w' ⟨rfl, ⟨nd, rfl⟩⟩) | (go_at_call 58; (with_reducible refine (float_Finite.calls t437 true _ A15.out).mono ?_); clear A15; rintro e w' ⟨rfl, ⟨nd, rfl⟩⟩))
              go_meet
              case rel => exact ⟨_, (decide ((wrap64 ((wrap64 (t439 - t441)) - t443)) > 36)), (by first | rfl | (simp; done) | (simp [*]; done)), H', ⟨by first | omega | exact Nat.le_refl _⟩, ⟨by repeat (first | (with_reducible first | exact HB.out | apply below_alloc | apply pw_below_drewN | apply below_drew1) | exact HB.out)⟩⟩
        · replace c16 := Bool.eq_false_iff.mpr c16
          subst c16
          have H1 : (lathelaw02_FloatNearDiv.j0 k t438 t440 t442 (wrap64 ((wrap64 (t439 - t441)) - t443)) true) = some r := by rw [if_neg (show ¬ (false = true) by decide)] at H; exact H
          clear H
          have H := H1
          clear H1
          have H' := Aside0.mk H
          clear H
          go_wp2_with (first | ((with_reducible refine gate_callee (f := 58) rfl ?_); refine goesL_ (some 38) rfl rfl Try.func58 (by kernel_rfl) rfl #[.int .u32 a0] rfl (by (try simp only [List.map_toArray, List.map_cons, List.map_nil]); first | done | rfl | (simp only [List.length_drop, List.length_take]; rfl)) ?_; (with_reducible refine (float_Finite.calls a0 true _ A11.out).mono ?_); rintro e w' ⟨rfl, ⟨nd, rfl⟩⟩; refine ⟨_, rfl, ?_⟩) | (go_at_call 58; (with_reducible refine (float_Finite.calls a1 true _ A13.out).mono ?_); clear A13; rintro e w' ⟨rfl, ⟨nd, rfl⟩⟩) | (go_at_call 58; (with_reducible refine (float_Finite.calls t437 false _ A15.out).mono ?_); clear A15; rintro e w' ⟨rfl, ⟨nd, rfl⟩⟩))
          go_meet
          case rel => exact ⟨_, (true), (by first | rfl | (simp; done) | (simp [*]; done)), H', ⟨by first | omega | exact Nat.le_refl _⟩, ⟨by repeat (first | (with_reducible first | exact HB.out | apply below_alloc | apply pw_below_drewN | apply below_drew1) | exact HB.out)⟩⟩
      · replace c14 := Bool.eq_false_iff.mpr c14
        subst c14
        have H1 : (lathelaw02_FloatNearDiv.j0 k t438 t440 t442 (wrap64 ((wrap64 (t439 - t441)) - t443)) true) = some r := by rw [if_neg (show ¬ (false = true) by decide)] at H; exact H
        clear H
        have H := H1
        clear H1
        have H' := Aside0.mk H
        clear H
        go_wp2_with (first | ((with_reducible refine gate_callee (f := 58) rfl ?_); refine goesL_ (some 38) rfl rfl Try.func58 (by kernel_rfl) rfl #[.int .u32 a0] rfl (by (try simp only [List.map_toArray, List.map_cons, List.map_nil]); first | done | rfl | (simp only [List.length_drop, List.length_take]; rfl)) ?_; (with_reducible refine (float_Finite.calls a0 true _ A11.out).mono ?_); rintro e w' ⟨rfl, ⟨nd, rfl⟩⟩; refine ⟨_, rfl, ?_⟩) | (go_at_call 58; (with_reducible refine (float_Finite.calls a1 false _ A13.out).mono ?_); clear A13; rintro e w' ⟨rfl, ⟨nd, rfl⟩⟩))
        go_meet
        case rel => exact ⟨_, (true), (by first | rfl | (simp; done) | (simp [*]; done)), H', ⟨by first | omega | exact Nat.le_refl _⟩, ⟨by repeat (first | (with_reducible first | exact HB.out | apply below_alloc | apply pw_below_drewN | apply below_drew1) | exact HB.out)⟩⟩
    · replace c12 := Bool.eq_false_iff.mpr c12
      subst c12
      have H1 : (lathelaw02_FloatNearDiv.j0 k t438 t440 t442 (wrap64 ((wrap64 (t439 - t441)) - t443)) true) = some r := by rw [if_neg (show ¬ (false = true) by decide)] at H; exact H
      clear H
      have H := H1
      clear H1
      have H' := Aside0.mk H
      clear H
      go_wp2_with (first | ((with_reducible refine gate_callee (f := 58) rfl ?_); refine goesL_ (some 38) rfl rfl Try.func58 (by kernel_rfl) rfl #[.int .u32 a0] rfl (by (try simp only [List.map_toArray, List.map_cons, List.map_nil]); first | done | rfl | (simp only [List.length_drop, List.length_take]; rfl)) ?_; (with_reducible refine (float_Finite.calls a0 false _ A11.out).mono ?_); rintro e w' ⟨rfl, ⟨nd, rfl⟩⟩; refine ⟨_, rfl, ?_⟩))
      go_meet
      case rel => exact ⟨_, (true), (by first | rfl | (simp; done) | (simp [*]; done)), H', ⟨by first | omega | exact Nat.le_refl _⟩, ⟨by repeat (first | (with_reducible first | exact HB.out | apply below_alloc | apply pw_below_drewN | apply below_drew1) | exact HB.out)⟩⟩
  case rest =>
    clear HC7
    try clear c1
    try clear p2
    try clear c5
    try clear p6
    try clear c12
    try clear c13
    try clear c14
    try clear c16
    try clear c17
    try clear c17b0
    try clear c17b1
    try clear c18
    try clear c18b0
    obtain ⟨kq, x61_6, rfl, HA, HJ6, HB⟩ := hcut
    cases kq with
    | zero => exact absurd HA.out (by simp [lathelaw02_FloatNearDiv.j0])
    | succ kj6 =>
      have H := HA.out
      clear HA
      simp only [lathelaw02_FloatNearDiv.j0] at H
      by_cases c19 : x61_6 = true
      · subst c19
        have H1 : ((lathelaw02_works.f).bind fun t447 => (some t447)) = some r := by rw [if_pos rfl] at H; exact H
        clear H
        have H := H1
        clear H1
        replace H := Option.bind_eq_some_iff.mp H
        obtain ⟨t447, A200, H⟩ := H
        replace H : (some t447) = some r := H
        have A20 := Aside0.mk A200
        clear A200
        obtain rfl := Option.some.inj H
        go_wp2_with (first | ((with_reducible refine gate_callee (f := 50) rfl ?_); refine goesL_ (some 62) rfl rfl Try.func50 (by kernel_rfl) rfl #[] rfl (by (try simp only [List.map_toArray, List.map_cons, List.map_nil]); first | done | rfl | (simp only [List.length_drop, List.length_take]; rfl)) ?_; (with_reducible refine (lathelaw02_works.calls  t447 _ A20.out).mono ?_); rintro e w' ⟨rfl, ⟨nd, rfl⟩⟩; refine ⟨_, rfl, ?_⟩))
        go_ret
        exact ⟨by first | rfl | (simp [errW_none, errW_some] <;> rfl) | (simp [*, errW_none, errW_some] <;> rfl), by repeat (first | (with_reducible first | exact HB.out | apply below_alloc | apply pw_below_drewN | apply below_drew1) | exact HB.out)⟩
      · replace c19 := Bool.eq_false_iff.mpr c19
        subst c19
        have H1 : (if t440 < 0 then (if 0 ≤ (IntKind.u64.wrap ((wrap64 ((wrap64 (t439 - t441)) - t443)))) then (if (wrap64 ((shl .i64 (wrap64 (-t438)) (IntKind.u64.wrap ((wrap64 ((wrap64 (t439 - t441)) - t443))))) - (wrap64 (t442 * (wrap64 (-t440)))))) < 0 then (if (wrap64 (2 * (wrap64 (-(wrap64 ((shl .i64 (wrap64 (-t438)) (IntKind.u64.wrap ((wrap64 ((wrap64 (t439 - t441)) - t443))))) - (wrap64 (t442 * (wrap64 (-t440)))))))))) < (wrap64 (-t440)) then ((lathelaw02_works.f).bind fun t448 => (some t448)) else (if (wrap64 (2 * (wrap64 (-(wrap64 ((shl .i64 (wrap64 (-t438)) (IntKind.u64.wrap ((wrap64 ((wrap64 (t439 - t441)) - t443))))) - (wrap64 (t442 * (wrap64 (-t440)))))))))) = (wrap64 (-t440)) then (if (Int.tmod t442 2) = 0 then ((lathelaw02_works.f).bind fun t449 => (some t449)) else (some false)) else (some false))) else (if (wrap64 (2 * (wrap64 ((shl .i64 (wrap64 (-t438)) (IntKind.u64.wrap ((wrap64 ((wrap64 (t439 - t441)) - t443))))) - (wrap64 (t442 * (wrap64 (-t440)))))))) < (wrap64 (-t440)) then ((lathelaw02_works.f).bind fun t450 => (some t450)) else (if (wrap64 (2 * (wrap64 ((shl .i64 (wrap64 (-t438)) (IntKind.u64.wrap ((wrap64 ((wrap64 (t439 - t441)) - t443))))) - (wrap64 (t442 * (wrap64 (-t440)))))))) = (wrap64 (-t440)) then (if (Int.tmod t442 2) = 0 then ((lathelaw02_works.f).bind fun t451 => (some t451)) else (some false)) else (some false)))) else (none)) else (if 0 ≤ (IntKind.u64.wrap ((wrap64 ((wrap64 (t439 - t441)) - t443)))) then (if (wrap64 ((shl .i64 t438 (IntKind.u64.wrap ((wrap64 ((wrap64 (t439 - t441)) - t443))))) - (wrap64 (t442 * t440)))) < 0 then (if (wrap64 (2 * (wrap64 (-(wrap64 ((shl .i64 t438 (IntKind.u64.wrap ((wrap64 ((wrap64 (t439 - t441)) - t443))))) - (wrap64 (t442 * t440)))))))) < t440 then ((lathelaw02_works.f).bind fun t452 => (some t452)) else (if (wrap64 (2 * (wrap64 (-(wrap64 ((shl .i64 t438 (IntKind.u64.wrap ((wrap64 ((wrap64 (t439 - t441)) - t443))))) - (wrap64 (t442 * t440)))))))) = t440 then (if (Int.tmod t442 2) = 0 then ((lathelaw02_works.f).bind fun t453 => (some t453)) else (some false)) else (some false))) else (if (wrap64 (2 * (wrap64 ((shl .i64 t438 (IntKind.u64.wrap ((wrap64 ((wrap64 (t439 - t441)) - t443))))) - (wrap64 (t442 * t440)))))) < t440 then ((lathelaw02_works.f).bind fun t454 => (some t454)) else (if (wrap64 (2 * (wrap64 ((shl .i64 t438 (IntKind.u64.wrap ((wrap64 ((wrap64 (t439 - t441)) - t443))))) - (wrap64 (t442 * t440)))))) = t440 then (if (Int.tmod t442 2) = 0 then ((lathelaw02_works.f).bind fun t455 => (some t455)) else (some false)) else (some false)))) else (none))) = some r := by rw [if_neg (show ¬ (false = true) by decide)] at H; exact H
        clear H
        have H := H1
        clear H1
        by_cases c21 : t440 < 0
        · rw [if_pos c21] at H
          have c21b0 : decide (t440 < 0) = true := decide_eq_true c21
          clear c21
          obtain ⟨ji22, hji22⟩ : ∃ j_ : Int, (IntKind.u64.wrap ((wrap64 ((wrap64 (t439 - t441)) - t443)))) = j_ := ⟨_, rfl⟩
          replace H : (if 0 ≤ (ji22) then (if (wrap64 ((shl .i64 (wrap64 (-t438)) (ji22)) - (wrap64 (t442 * (wrap64 (-t440)))))) < 0 then (if (wrap64 (2 * (wrap64 (-(wrap64 ((shl .i64 (wrap64 (-t438)) (ji22)) - (wrap64 (t442 * (wrap64 (-t440)))))))))) < (wrap64 (-t440)) then ((lathelaw02_works.f).bind fun t448 => (some t448)) else (if (wrap64 (2 * (wrap64 (-(wrap64 ((shl .i64 (wrap64 (-t438)) (ji22)) - (wrap64 (t442 * (wrap64 (-t440)))))))))) = (wrap64 (-t440)) then (if (Int.tmod t442 2) = 0 then ((lathelaw02_works.f).bind fun t449 => (some t449)) else (some false)) else (some false))) else (if (wrap64 (2 * (wrap64 ((shl .i64 (wrap64 (-t438)) (ji22)) - (wrap64 (t442 * (wrap64 (-t440)))))))) < (wrap64 (-t440)) then ((lathelaw02_works.f).bind fun t450 => (some t450)) else (if (wrap64 (2 * (wrap64 ((shl .i64 (wrap64 (-t438)) (ji22)) - (wrap64 (t442 * (wrap64 (-t440)))))))) = (wrap64 (-t440)) then (if (Int.tmod t442 2) = 0 then ((lathelaw02_works.f).bind fun t451 => (some t451)) else (some false)) else (some false)))) else (none)) = some r := by first | (rw [hji22] at H; exact H) | (simp only [hji22] at H ⊢; exact H)
          by_cases c23 : 0 ≤ (ji22)
          · rw [if_pos c23] at H
            have c23b0 := eq_true c23
            have c23b1 : decide (0 ≤ (ji22)) = true := decide_eq_true c23
            clear c23
            obtain ⟨ji24, hji24⟩ : ∃ j_ : Int, (shl .i64 (wrap64 (-t438)) (ji22)) = j_ := ⟨_, rfl⟩
            replace H : (if (wrap64 ((ji24) - (wrap64 (t442 * (wrap64 (-t440)))))) < 0 then (if (wrap64 (2 * (wrap64 (-(wrap64 ((ji24) - (wrap64 (t442 * (wrap64 (-t440)))))))))) < (wrap64 (-t440)) then ((lathelaw02_works.f).bind fun t448 => (some t448)) else (if (wrap64 (2 * (wrap64 (-(wrap64 ((ji24) - (wrap64 (t442 * (wrap64 (-t440)))))))))) = (wrap64 (-t440)) then (if (Int.tmod t442 2) = 0 then ((lathelaw02_works.f).bind fun t449 => (some t449)) else (some false)) else (some false))) else (if (wrap64 (2 * (wrap64 ((ji24) - (wrap64 (t442 * (wrap64 (-t440)))))))) < (wrap64 (-t440)) then ((lathelaw02_works.f).bind fun t450 => (some t450)) else (if (wrap64 (2 * (wrap64 ((ji24) - (wrap64 (t442 * (wrap64 (-t440)))))))) = (wrap64 (-t440)) then (if (Int.tmod t442 2) = 0 then ((lathelaw02_works.f).bind fun t451 => (some t451)) else (some false)) else (some false)))) = some r := by first | (rw [hji24] at H; exact H) | (simp only [hji24] at H ⊢; exact H)
            have hji24_ : (IntKind.i64.wrap ((wrap64 (-t438)) * 2 ^ min (ji22).toNat 64)) = ji24 := hji24
            have hji24z : (ji22) ≤ 64 → (IntKind.i64.wrap ((wrap64 (-t438)) * 2 ^ (ji22).toNat)) = ji24 := shl_small hji24
            have hji24y : (wrap64 ((wrap64 (-t438)) * 2 ^ min (ji22).toNat 64)) = ji24 := (i64_w _).symm.trans hji24_
            have hji24x : (ji22) ≤ 64 → (wrap64 ((wrap64 (-t438)) * 2 ^ (ji22).toNat)) = ji24 := fun h_ => (i64_w _).symm.trans (hji24z h_)
            by_cases c25 : (wrap64 ((ji24) - (wrap64 (t442 * (wrap64 (-t440)))))) < 0
            · rw [if_pos c25] at H
              have c25b0 : decide ((wrap64 ((ji24) - (wrap64 (t442 * (wrap64 (-t440)))))) < 0) = true := decide_eq_true c25
              clear c25
              by_cases c26 : (wrap64 (2 * (wrap64 (-(wrap64 ((ji24) - (wrap64 (t442 * (wrap64 (-t440)))))))))) < (wrap64 (-t440))
              · rw [if_pos c26] at H
                have c26b0 : decide ((wrap64 (2 * (wrap64 (-(wrap64 ((ji24) - (wrap64 (t442 * (wrap64 (-t440)))))))))) < (wrap64 (-t440))) = true := decide_eq_true c26
                clear c26
                replace H := Option.bind_eq_some_iff.mp H
                obtain ⟨t448, A270, H⟩ := H
                replace H : (some t448) = some r := H
                have A27 := Aside0.mk A270
                clear A270
                obtain rfl := Option.some.inj H
                go_wp2_with (first | (go_at_call 50; (with_reducible refine (lathelaw02_works.calls  t448 _ A27.out).mono ?_); clear A27; rintro e w' ⟨rfl, ⟨nd, rfl⟩⟩))
                go_ret
                exact ⟨by first | rfl | (simp [errW_none, errW_some] <;> rfl) | (simp only [← hji22, ← hji24]; first | rfl | (simp [errW_none, errW_some] <;> rfl)) | (simp [*, errW_none, errW_some] <;> rfl), by repeat (first | (with_reducible first | exact HB.out | apply below_alloc | apply pw_below_drewN | apply below_drew1) | exact HB.out)⟩
              · rw [if_neg c26] at H
                have c26b0 : decide ((wrap64 (2 * (wrap64 (-(wrap64 ((ji24) - (wrap64 (t442 * (wrap64 (-t440)))))))))) < (wrap64 (-t440))) = false := decide_eq_false c26
                clear c26
                by_cases c28 : (wrap64 (2 * (wrap64 (-(wrap64 ((ji24) - (wrap64 (t442 * (wrap64 (-t440)))))))))) = (wrap64 (-t440))
                · rw [if_pos c28] at H
                  have c28b0 : ((wrap64 (2 * (wrap64 (-(wrap64 ((ji24) - (wrap64 (t442 * (wrap64 (-t440)))))))))) == (wrap64 (-t440))) = true := beq_iff_eq.mpr c28
                  have c28b1 : ((wrap64 (2 * (wrap64 (-(wrap64 ((ji24) - (wrap64 (t442 * (wrap64 (-t440)))))))))) != (wrap64 (-t440))) = false := bne_eq_false_iff_eq.mpr c28
                  clear c28
                  by_cases c29 : (Int.tmod t442 2) = 0
                  · rw [if_pos c29] at H
                    have c29b0 : ((Int.tmod t442 2) == 0) = true := beq_iff_eq.mpr c29
                    have c29b1 : ((Int.tmod t442 2) != 0) = false := bne_eq_false_iff_eq.mpr c29
                    clear c29
                    replace H := Option.bind_eq_some_iff.mp H
                    obtain ⟨t449, A300, H⟩ := H
                    replace H : (some t449) = some r := H
                    have A30 := Aside0.mk A300
                    clear A300
                    obtain rfl := Option.some.inj H
                    go_wp2_with (first | (go_at_call 50; (with_reducible refine (lathelaw02_works.calls  t449 _ A30.out).mono ?_); clear A30; rintro e w' ⟨rfl, ⟨nd, rfl⟩⟩))
                    go_ret
                    exact ⟨by first | rfl | (simp [errW_none, errW_some] <;> rfl) | (simp only [← hji22, ← hji24]; first | rfl | (simp [errW_none, errW_some] <;> rfl)) | (simp [*, errW_none, errW_some] <;> rfl), by repeat (first | (with_reducible first | exact HB.out | apply below_alloc | apply pw_below_drewN | apply below_drew1) | exact HB.out)⟩
                  · rw [if_neg c29] at H
                    have c29b0 : ((Int.tmod t442 2) == 0) = false := beq_eq_false_iff_ne.mpr c29
                    have c29b1 : ((Int.tmod t442 2) != 0) = true := bne_iff_ne.mpr c29
                    obtain rfl := Option.some.inj H
                    go_wp2
                    go_ret
                    exact ⟨by first | rfl | (simp [errW_none, errW_some] <;> rfl) | (simp only [← hji22, ← hji24]; first | rfl | (simp [errW_none, errW_some] <;> rfl)) | (simp [*, errW_none, errW_some] <;> rfl), by repeat (first | (with_reducible first | exact HB.out | apply below_alloc | apply pw_below_drewN | apply below_drew1) | exact HB.out)⟩
                · rw [if_neg c28] at H
                  have c28b0 : ((wrap64 (2 * (wrap64 (-(wrap64 ((ji24) - (wrap64 (t442 * (wrap64 (-t440)))))))))) == (wrap64 (-t440))) = false := beq_eq_false_iff_ne.mpr c28
                  have c28b1 : ((wrap64 (2 * (wrap64 (-(wrap64 ((ji24) - (wrap64 (t442 * (wrap64 (-t440)))))))))) != (wrap64 (-t440))) = true := bne_iff_ne.mpr c28
                  obtain rfl := Option.some.inj H
                  go_wp2
                  go_ret
                  exact ⟨by first | rfl | (simp [errW_none, errW_some] <;> rfl) | (simp only [← hji22, ← hji24]; first | rfl | (simp [errW_none, errW_some] <;> rfl)) | (simp [*, errW_none, errW_some] <;> rfl), by repeat (first | (with_reducible first | exact HB.out | apply below_alloc | apply pw_below_drewN | apply below_drew1) | exact HB.out)⟩
            · rw [if_neg c25] at H
              have c25b0 : decide ((wrap64 ((ji24) - (wrap64 (t442 * (wrap64 (-t440)))))) < 0) = false := decide_eq_false c25
              clear c25
              by_cases c31 : (wrap64 (2 * (wrap64 ((ji24) - (wrap64 (t442 * (wrap64 (-t440)))))))) < (wrap64 (-t440))
              · rw [if_pos c31] at H
                have c31b0 : decide ((wrap64 (2 * (wrap64 ((ji24) - (wrap64 (t442 * (wrap64 (-t440)))))))) < (wrap64 (-t440))) = true := decide_eq_true c31
                clear c31
                replace H := Option.bind_eq_some_iff.mp H
                obtain ⟨t450, A320, H⟩ := H
                replace H : (some t450) = some r := H
                have A32 := Aside0.mk A320
                clear A320
                obtain rfl := Option.some.inj H
                go_wp2_with (first | (go_at_call 50; (with_reducible refine (lathelaw02_works.calls  t450 _ A32.out).mono ?_); clear A32; rintro e w' ⟨rfl, ⟨nd, rfl⟩⟩))
                go_ret
                exact ⟨by first | rfl | (simp [errW_none, errW_some] <;> rfl) | (simp only [← hji22, ← hji24]; first | rfl | (simp [errW_none, errW_some] <;> rfl)) | (simp [*, errW_none, errW_some] <;> rfl), by repeat (first | (with_reducible first | exact HB.out | apply below_alloc | apply pw_below_drewN | apply below_drew1) | exact HB.out)⟩
              · rw [if_neg c31] at H
                have c31b0 : decide ((wrap64 (2 * (wrap64 ((ji24) - (wrap64 (t442 * (wrap64 (-t440)))))))) < (wrap64 (-t440))) = false := decide_eq_false c31
                clear c31
                by_cases c33 : (wrap64 (2 * (wrap64 ((ji24) - (wrap64 (t442 * (wrap64 (-t440)))))))) = (wrap64 (-t440))
                · rw [if_pos c33] at H
                  have c33b0 : ((wrap64 (2 * (wrap64 ((ji24) - (wrap64 (t442 * (wrap64 (-t440)))))))) == (wrap64 (-t440))) = true := beq_iff_eq.mpr c33
                  have c33b1 : ((wrap64 (2 * (wrap64 ((ji24) - (wrap64 (t442 * (wrap64 (-t440)))))))) != (wrap64 (-t440))) = false := bne_eq_false_iff_eq.mpr c33
                  clear c33
                  by_cases c34 : (Int.tmod t442 2) = 0
                  · rw [if_pos c34] at H
                    have c34b0 : ((Int.tmod t442 2) == 0) = true := beq_iff_eq.mpr c34
                    have c34b1 : ((Int.tmod t442 2) != 0) = false := bne_eq_false_iff_eq.mpr c34
                    clear c34
                    replace H := Option.bind_eq_some_iff.mp H
                    obtain ⟨t451, A350, H⟩ := H
                    replace H : (some t451) = some r := H
                    have A35 := Aside0.mk A350
                    clear A350
                    obtain rfl := Option.some.inj H
                    go_wp2_with (first | (go_at_call 50; (with_reducible refine (lathelaw02_works.calls  t451 _ A35.out).mono ?_); clear A35; rintro e w' ⟨rfl, ⟨nd, rfl⟩⟩))
                    go_ret
                    exact ⟨by first | rfl | (simp [errW_none, errW_some] <;> rfl) | (simp only [← hji22, ← hji24]; first | rfl | (simp [errW_none, errW_some] <;> rfl)) | (simp [*, errW_none, errW_some] <;> rfl), by repeat (first | (with_reducible first | exact HB.out | apply below_alloc | apply pw_below_drewN | apply below_drew1) | exact HB.out)⟩
                  · rw [if_neg c34] at H
                    have c34b0 : ((Int.tmod t442 2) == 0) = false := beq_eq_false_iff_ne.mpr c34
                    have c34b1 : ((Int.tmod t442 2) != 0) = true := bne_iff_ne.mpr c34
                    obtain rfl := Option.some.inj H
                    go_wp2
                    go_ret
                    exact ⟨by first | rfl | (simp [errW_none, errW_some] <;> rfl) | (simp only [← hji22, ← hji24]; first | rfl | (simp [errW_none, errW_some] <;> rfl)) | (simp [*, errW_none, errW_some] <;> rfl), by repeat (first | (with_reducible first | exact HB.out | apply below_alloc | apply pw_below_drewN | apply below_drew1) | exact HB.out)⟩
                · rw [if_neg c33] at H
                  have c33b0 : ((wrap64 (2 * (wrap64 ((ji24) - (wrap64 (t442 * (wrap64 (-t440)))))))) == (wrap64 (-t440))) = false := beq_eq_false_iff_ne.mpr c33
                  have c33b1 : ((wrap64 (2 * (wrap64 ((ji24) - (wrap64 (t442 * (wrap64 (-t440)))))))) != (wrap64 (-t440))) = true := bne_iff_ne.mpr c33
                  obtain rfl := Option.some.inj H
                  go_wp2
                  go_ret
                  exact ⟨by first | rfl | (simp [errW_none, errW_some] <;> rfl) | (simp only [← hji22, ← hji24]; first | rfl | (simp [errW_none, errW_some] <;> rfl)) | (simp [*, errW_none, errW_some] <;> rfl), by repeat (first | (with_reducible first | exact HB.out | apply below_alloc | apply pw_below_drewN | apply below_drew1) | exact HB.out)⟩
          · rw [if_neg c23] at H
            exact absurd H (by simp)
        · rw [if_neg c21] at H
          have c21b0 : decide (t440 < 0) = false := decide_eq_false c21
          clear c21
          obtain ⟨ji36, hji36⟩ : ∃ j_ : Int, (IntKind.u64.wrap ((wrap64 ((wrap64 (t439 - t441)) - t443)))) = j_ := ⟨_, rfl⟩
          replace H : (if 0 ≤ (ji36) then (if (wrap64 ((shl .i64 t438 (ji36)) - (wrap64 (t442 * t440)))) < 0 then (if (wrap64 (2 * (wrap64 (-(wrap64 ((shl .i64 t438 (ji36)) - (wrap64 (t442 * t440)))))))) < t440 then ((lathelaw02_works.f).bind fun t452 => (some t452)) else (if (wrap64 (2 * (wrap64 (-(wrap64 ((shl .i64 t438 (ji36)) - (wrap64 (t442 * t440)))))))) = t440 then (if (Int.tmod t442 2) = 0 then ((lathelaw02_works.f).bind fun t453 => (some t453)) else (some false)) else (some false))) else (if (wrap64 (2 * (wrap64 ((shl .i64 t438 (ji36)) - (wrap64 (t442 * t440)))))) < t440 then ((lathelaw02_works.f).bind fun t454 => (some t454)) else (if (wrap64 (2 * (wrap64 ((shl .i64 t438 (ji36)) - (wrap64 (t442 * t440)))))) = t440 then (if (Int.tmod t442 2) = 0 then ((lathelaw02_works.f).bind fun t455 => (some t455)) else (some false)) else (some false)))) else (none)) = some r := by first | (rw [hji36] at H; exact H) | (simp only [hji36] at H ⊢; exact H)
          by_cases c37 : 0 ≤ (ji36)
          · rw [if_pos c37] at H
            have c37b0 := eq_true c37
            have c37b1 : decide (0 ≤ (ji36)) = true := decide_eq_true c37
            clear c37
            obtain ⟨ji38, hji38⟩ : ∃ j_ : Int, (shl .i64 t438 (ji36)) = j_ := ⟨_, rfl⟩
            replace H : (if (wrap64 ((ji38) - (wrap64 (t442 * t440)))) < 0 then (if (wrap64 (2 * (wrap64 (-(wrap64 ((ji38) - (wrap64 (t442 * t440)))))))) < t440 then ((lathelaw02_works.f).bind fun t452 => (some t452)) else (if (wrap64 (2 * (wrap64 (-(wrap64 ((ji38) - (wrap64 (t442 * t440)))))))) = t440 then (if (Int.tmod t442 2) = 0 then ((lathelaw02_works.f).bind fun t453 => (some t453)) else (some false)) else (some false))) else (if (wrap64 (2 * (wrap64 ((ji38) - (wrap64 (t442 * t440)))))) < t440 then ((lathelaw02_works.f).bind fun t454 => (some t454)) else (if (wrap64 (2 * (wrap64 ((ji38) - (wrap64 (t442 * t440)))))) = t440 then (if (Int.tmod t442 2) = 0 then ((lathelaw02_works.f).bind fun t455 => (some t455)) else (some false)) else (some false)))) = some r := by first | (rw [hji38] at H; exact H) | (simp only [hji38] at H ⊢; exact H)
            have hji38_ : (IntKind.i64.wrap (t438 * 2 ^ min (ji36).toNat 64)) = ji38 := hji38
            have hji38z : (ji36) ≤ 64 → (IntKind.i64.wrap (t438 * 2 ^ (ji36).toNat)) = ji38 := shl_small hji38
            have hji38y : (wrap64 (t438 * 2 ^ min (ji36).toNat 64)) = ji38 := (i64_w _).symm.trans hji38_
            have hji38x : (ji36) ≤ 64 → (wrap64 (t438 * 2 ^ (ji36).toNat)) = ji38 := fun h_ => (i64_w _).symm.trans (hji38z h_)
            by_cases c39 : (wrap64 ((ji38) - (wrap64 (t442 * t440)))) < 0
            · rw [if_pos c39] at H
              have c39b0 : decide ((wrap64 ((ji38) - (wrap64 (t442 * t440)))) < 0) = true := decide_eq_true c39
              clear c39
              by_cases c40 : (wrap64 (2 * (wrap64 (-(wrap64 ((ji38) - (wrap64 (t442 * t440)))))))) < t440
              · rw [if_pos c40] at H
                have c40b0 : decide ((wrap64 (2 * (wrap64 (-(wrap64 ((ji38) - (wrap64 (t442 * t440)))))))) < t440) = true := decide_eq_true c40
                clear c40
                replace H := Option.bind_eq_some_iff.mp H
                obtain ⟨t452, A410, H⟩ := H
                replace H : (some t452) = some r := H
                have A41 := Aside0.mk A410
                clear A410
                obtain rfl := Option.some.inj H
                go_wp2_with (first | (go_at_call 50; (with_reducible refine (lathelaw02_works.calls  t452 _ A41.out).mono ?_); clear A41; rintro e w' ⟨rfl, ⟨nd, rfl⟩⟩))
                go_ret
                exact ⟨by first | rfl | (simp [errW_none, errW_some] <;> rfl) | (simp only [← hji36, ← hji38]; first | rfl | (simp [errW_none, errW_some] <;> rfl)) | (simp [*, errW_none, errW_some] <;> rfl), by repeat (first | (with_reducible first | exact HB.out | apply below_alloc | apply pw_below_drewN | apply below_drew1) | exact HB.out)⟩
              · rw [if_neg c40] at H
                have c40b0 : decide ((wrap64 (2 * (wrap64 (-(wrap64 ((ji38) - (wrap64 (t442 * t440)))))))) < t440) = false := decide_eq_false c40
                clear c40
                by_cases c42 : (wrap64 (2 * (wrap64 (-(wrap64 ((ji38) - (wrap64 (t442 * t440)))))))) = t440
                · rw [if_pos c42] at H
                  have c42b0 : ((wrap64 (2 * (wrap64 (-(wrap64 ((ji38) - (wrap64 (t442 * t440)))))))) == t440) = true := beq_iff_eq.mpr c42
                  have c42b1 : ((wrap64 (2 * (wrap64 (-(wrap64 ((ji38) - (wrap64 (t442 * t440)))))))) != t440) = false := bne_eq_false_iff_eq.mpr c42
                  clear c42
                  by_cases c43 : (Int.tmod t442 2) = 0
                  · rw [if_pos c43] at H
                    have c43b0 : ((Int.tmod t442 2) == 0) = true := beq_iff_eq.mpr c43
                    have c43b1 : ((Int.tmod t442 2) != 0) = false := bne_eq_false_iff_eq.mpr c43
                    clear c43
                    replace H := Option.bind_eq_some_iff.mp H
                    obtain ⟨t453, A440, H⟩ := H
                    replace H : (some t453) = some r := H
                    have A44 := Aside0.mk A440
                    clear A440
                    obtain rfl := Option.some.inj H
                    go_wp2_with (first | (go_at_call 50; (with_reducible refine (lathelaw02_works.calls  t453 _ A44.out).mono ?_); clear A44; rintro e w' ⟨rfl, ⟨nd, rfl⟩⟩))
                    go_ret
                    exact ⟨by first | rfl | (simp [errW_none, errW_some] <;> rfl) | (simp only [← hji36, ← hji38]; first | rfl | (simp [errW_none, errW_some] <;> rfl)) | (simp [*, errW_none, errW_some] <;> rfl), by repeat (first | (with_reducible first | exact HB.out | apply below_alloc | apply pw_below_drewN | apply below_drew1) | exact HB.out)⟩
                  · rw [if_neg c43] at H
                    have c43b0 : ((Int.tmod t442 2) == 0) = false := beq_eq_false_iff_ne.mpr c43
                    have c43b1 : ((Int.tmod t442 2) != 0) = true := bne_iff_ne.mpr c43
                    obtain rfl := Option.some.inj H
                    go_wp2
                    go_ret
                    exact ⟨by first | rfl | (simp [errW_none, errW_some] <;> rfl) | (simp only [← hji36, ← hji38]; first | rfl | (simp [errW_none, errW_some] <;> rfl)) | (simp [*, errW_none, errW_some] <;> rfl), by repeat (first | (with_reducible first | exact HB.out | apply below_alloc | apply pw_below_drewN | apply below_drew1) | exact HB.out)⟩
                · rw [if_neg c42] at H
                  have c42b0 : ((wrap64 (2 * (wrap64 (-(wrap64 ((ji38) - (wrap64 (t442 * t440)))))))) == t440) = false := beq_eq_false_iff_ne.mpr c42
                  have c42b1 : ((wrap64 (2 * (wrap64 (-(wrap64 ((ji38) - (wrap64 (t442 * t440)))))))) != t440) = true := bne_iff_ne.mpr c42
                  obtain rfl := Option.some.inj H
                  go_wp2
                  go_ret
                  exact ⟨by first | rfl | (simp [errW_none, errW_some] <;> rfl) | (simp only [← hji36, ← hji38]; first | rfl | (simp [errW_none, errW_some] <;> rfl)) | (simp [*, errW_none, errW_some] <;> rfl), by repeat (first | (with_reducible first | exact HB.out | apply below_alloc | apply pw_below_drewN | apply below_drew1) | exact HB.out)⟩
            · rw [if_neg c39] at H
              have c39b0 : decide ((wrap64 ((ji38) - (wrap64 (t442 * t440)))) < 0) = false := decide_eq_false c39
              clear c39
              by_cases c45 : (wrap64 (2 * (wrap64 ((ji38) - (wrap64 (t442 * t440)))))) < t440
              · rw [if_pos c45] at H
                have c45b0 : decide ((wrap64 (2 * (wrap64 ((ji38) - (wrap64 (t442 * t440)))))) < t440) = true := decide_eq_true c45
                clear c45
                replace H := Option.bind_eq_some_iff.mp H
                obtain ⟨t454, A460, H⟩ := H
                replace H : (some t454) = some r := H
                have A46 := Aside0.mk A460
                clear A460
                obtain rfl := Option.some.inj H
                go_wp2_with (first | (go_at_call 50; (with_reducible refine (lathelaw02_works.calls  t454 _ A46.out).mono ?_); clear A46; rintro e w' ⟨rfl, ⟨nd, rfl⟩⟩))
                go_ret
                exact ⟨by first | rfl | (simp [errW_none, errW_some] <;> rfl) | (simp only [← hji36, ← hji38]; first | rfl | (simp [errW_none, errW_some] <;> rfl)) | (simp [*, errW_none, errW_some] <;> rfl), by repeat (first | (with_reducible first | exact HB.out | apply below_alloc | apply pw_below_drewN | apply below_drew1) | exact HB.out)⟩
              · rw [if_neg c45] at H
                have c45b0 : decide ((wrap64 (2 * (wrap64 ((ji38) - (wrap64 (t442 * t440)))))) < t440) = false := decide_eq_false c45
                clear c45
                by_cases c47 : (wrap64 (2 * (wrap64 ((ji38) - (wrap64 (t442 * t440)))))) = t440
                · rw [if_pos c47] at H
                  have c47b0 : ((wrap64 (2 * (wrap64 ((ji38) - (wrap64 (t442 * t440)))))) == t440) = true := beq_iff_eq.mpr c47
                  have c47b1 : ((wrap64 (2 * (wrap64 ((ji38) - (wrap64 (t442 * t440)))))) != t440) = false := bne_eq_false_iff_eq.mpr c47
                  clear c47
                  by_cases c48 : (Int.tmod t442 2) = 0
                  · rw [if_pos c48] at H
                    have c48b0 : ((Int.tmod t442 2) == 0) = true := beq_iff_eq.mpr c48
                    have c48b1 : ((Int.tmod t442 2) != 0) = false := bne_eq_false_iff_eq.mpr c48
                    clear c48
                    replace H := Option.bind_eq_some_iff.mp H
                    obtain ⟨t455, A490, H⟩ := H
                    replace H : (some t455) = some r := H
                    have A49 := Aside0.mk A490
                    clear A490
                    obtain rfl := Option.some.inj H
                    go_wp2_with (first | (go_at_call 50; (with_reducible refine (lathelaw02_works.calls  t455 _ A49.out).mono ?_); clear A49; rintro e w' ⟨rfl, ⟨nd, rfl⟩⟩))
                    go_ret
                    exact ⟨by first | rfl | (simp [errW_none, errW_some] <;> rfl) | (simp only [← hji36, ← hji38]; first | rfl | (simp [errW_none, errW_some] <;> rfl)) | (simp [*, errW_none, errW_some] <;> rfl), by repeat (first | (with_reducible first | exact HB.out | apply below_alloc | apply pw_below_drewN | apply below_drew1) | exact HB.out)⟩
                  · rw [if_neg c48] at H
                    have c48b0 : ((Int.tmod t442 2) == 0) = false := beq_eq_false_iff_ne.mpr c48
                    have c48b1 : ((Int.tmod t442 2) != 0) = true := bne_iff_ne.mpr c48
                    obtain rfl := Option.some.inj H
                    go_wp2
                    go_ret
                    exact ⟨by first | rfl | (simp [errW_none, errW_some] <;> rfl) | (simp only [← hji36, ← hji38]; first | rfl | (simp [errW_none, errW_some] <;> rfl)) | (simp [*, errW_none, errW_some] <;> rfl), by repeat (first | (with_reducible first | exact HB.out | apply below_alloc | apply pw_below_drewN | apply below_drew1) | exact HB.out)⟩
                · rw [if_neg c47] at H
                  have c47b0 : ((wrap64 (2 * (wrap64 ((ji38) - (wrap64 (t442 * t440)))))) == t440) = false := beq_eq_false_iff_ne.mpr c47
                  have c47b1 : ((wrap64 (2 * (wrap64 ((ji38) - (wrap64 (t442 * t440)))))) != t440) = true := bne_iff_ne.mpr c47
                  obtain rfl := Option.some.inj H
                  go_wp2
                  go_ret
                  exact ⟨by first | rfl | (simp [errW_none, errW_some] <;> rfl) | (simp only [← hji36, ← hji38]; first | rfl | (simp [errW_none, errW_some] <;> rfl)) | (simp [*, errW_none, errW_some] <;> rfl), by repeat (first | (with_reducible first | exact HB.out | apply below_alloc | apply pw_below_drewN | apply below_drew1) | exact HB.out)⟩
          · rw [if_neg c37] at H
            exact absurd H (by simp)

/-- THE ONE PURE STATEMENT of lathelaw02_FloatNearDiv: yours. -/
def lathelaw02_FloatNearDiv.Pure : Prop := ∀ (a0 : Int) (a1 : Int), (Lit.int .u32 a0).wf = true → (Lit.int .u32 a1).wf = true → ∃ k, lathelaw02_FloatNearDiv.f k a0 a1 = some true
theorem lathelaw02_FloatNearDiv.walk (P : lathelaw02_FloatNearDiv.Pure) (a0 : Int) (a1 : Int) (w : World) (w0 : (Lit.int .u32 a0).wf = true) (w1 : (Lit.int .u32 a1).wf = true) :
    Calls Try.prog 13 #[.int .u32 a0, .int .u32 a1] w fun e w' => e = .returned (.bool true) ∧ Below w.heap.size w w' := by
  obtain ⟨k, h⟩ := P a0 a1 w0 w1
  refine (lathelaw02_FloatNearDiv.calls k a0 a1 true w h).mono ?_
  rintro e w' ⟨rfl, hd⟩
  exact ⟨rfl, hd⟩

end Go.Proofs.Ytcegmbplgghjnaa.PF
