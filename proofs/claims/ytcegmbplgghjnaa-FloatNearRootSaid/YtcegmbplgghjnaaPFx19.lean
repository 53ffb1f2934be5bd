/- The functions of the program that a statement reaches, as plain functions, and that the machine's calls do what these say. No condition. (Printed by a program.) -/
import Derived.Test.YtcegmbplgghjnaaPFx0
import Derived.Test.YtcegmbplgghjnaaPFx4
import Derived.Test.YtcegmbplgghjnaaPFx11
import Derived.Test.YtcegmbplgghjnaaPFx16
namespace Go.Proofs.Ytcegmbplgghjnaa.PF
open Go.RowKit Go.Proofs.YtcegmbplgghjnaaW.PrintWords Go.Proofs.YtcegmbplgghjnaaW.PrintLast Go.Proofs.YtcegmbplgghjnaaW.PrintMore
attribute [local go_sem] max2_int min2_int max_two min_two max_three min_three max_four min_four   -- for this text's walks alone
set_option linter.unusedVariables false
set_option linter.unusedSimpArgs false

/-! ### lathelaw02_FloatNearRoot: function 14 -/
def lathelaw02_FloatNearRoot.j0 : Nat → Int → Int → Int → Bool → Option (Bool)
  | 0, _, _, _, _ => none
  | k + 1, x4, x6, x8, x41 => if x41 = true then ((lathelaw02_works.f).bind fun t462 => (some t462)) else (if 0 ≤ (IntKind.u64.wrap (x8)) then (if (wrap64 ((wrap64 ((wrap64 (2 * x6)) - 1)) * (wrap64 ((wrap64 (2 * x6)) - 1)))) < (shl .i64 x4 (IntKind.u64.wrap (x8))) then (if (shl .i64 x4 (IntKind.u64.wrap (x8))) < (wrap64 ((wrap64 ((wrap64 (2 * x6)) + 1)) * (wrap64 ((wrap64 (2 * x6)) + 1)))) then ((lathelaw02_works.f).bind fun t463 => (some t463)) else (some false)) else (some false)) else (none))
def lathelaw02_FloatNearRoot.f (k : Nat) (a0 : Int) : Option (Bool) := (float_Sqrt.f a0).bind fun t456 => ((lathelaw02_parts.f a0).bind fun bt457 => ((lathelaw02_parts.f t456).bind fun bt459 => ((float_Finite.f a0).bind fun t461 => (if t461 = true then (if bt457.1 ≤ 0 then (lathelaw02_FloatNearRoot.j0 k bt457.1 bt459.1 (wrap64 ((wrap64 (bt457.2 - (wrap64 (2 * bt459.2)))) + 2)) true) else (if (wrap64 ((wrap64 (bt457.2 - (wrap64 (2 * bt459.2)))) + 2)) < 0 then (lathelaw02_FloatNearRoot.j0 k bt457.1 bt459.1 (wrap64 ((wrap64 (bt457.2 - (wrap64 (2 * bt459.2)))) + 2)) true) else (lathelaw02_FloatNearRoot.j0 k bt457.1 bt459.1 (wrap64 ((wrap64 (bt457.2 - (wrap64 (2 * bt459.2)))) + 2)) (decide ((wrap64 ((wrap64 (bt457.2 - (wrap64 (2 * bt459.2)))) + 2)) > 36))))) else (lathelaw02_FloatNearRoot.j0 k bt457.1 bt459.1 (wrap64 ((wrap64 (bt457.2 - (wrap64 (2 * bt459.2)))) + 2)) true)))))
theorem lathelaw02_FloatNearRoot.mono_l : ∀ k, (∀ y0 y1 y2 y3, LeO (lathelaw02_FloatNearRoot.j0 k y0 y1 y2 y3) (lathelaw02_FloatNearRoot.j0 (k + 1) y0 y1 y2 y3))
  | 0 => fun _ _ _ _ r h => by simp [lathelaw02_FloatNearRoot.j0] at h
  | k + 1 => by
    have ih0 := lathelaw02_FloatNearRoot.mono_l k
    · intro y0 y1 y2 y3
      unfold lathelaw02_FloatNearRoot.j0
      repeat' first
      | (with_reducible exact ih0 _ _ _ _)
      | (with_reducible exact LeO.refl _)
      | (with_reducible exact LeO.none _)
      | (with_reducible refine LeO.ite ?_ ?_)
      | (with_reducible refine LeO.bind ?_ (fun _ => ?_))
      | exact ih0 _ _ _ _
      | exact LeO.none _
      | refine LeO.ite ?_ ?_
      | refine LeO.bind ?_ (fun _ => ?_)
theorem lathelaw02_FloatNearRoot.mono : ∀ a0 k, LeO (lathelaw02_FloatNearRoot.f k a0) (lathelaw02_FloatNearRoot.f (k + 1) a0) := by
  intro a0 k
  have ih0 := lathelaw02_FloatNearRoot.mono_l k
  unfold lathelaw02_FloatNearRoot.f
  repeat' first
      | (with_reducible exact ih0 _ _ _ _)
      | (with_reducible exact LeO.refl _)
      | (with_reducible exact LeO.none _)
      | (with_reducible refine LeO.ite ?_ ?_)
      | (with_reducible refine LeO.bind ?_ (fun _ => ?_))
      | exact ih0 _ _ _ _
      | exact LeO.none _
      | refine LeO.ite ?_ ?_
      | refine LeO.bind ?_ (fun _ => ?_)
set_option maxHeartbeats 8000000 in
set_option maxRecDepth 100000 in
theorem lathelaw02_FloatNearRoot.calls (k : Nat) (a0 : Int) (r : Bool) (w : World) (h : lathelaw02_FloatNearRoot.f k a0 = some r) :
    Calls Try.prog 14 #[.int .u32 a0] w fun e w' => e = .returned (.bool r) ∧ Below w.heap.size w w' := by
  have HB := Aside0.mk (Below.refl w.heap.size w)
  have H : ((float_Sqrt.f a0).bind fun t456 => ((lathelaw02_parts.f a0).bind fun bt457 => ((lathelaw02_parts.f t456).bind fun bt459 => ((float_Finite.f a0).bind fun t461 => (if t461 = true then (if bt457.1 ≤ 0 then (lathelaw02_FloatNearRoot.j0 k bt457.1 bt459.1 (wrap64 ((wrap64 (bt457.2 - (wrap64 (2 * bt459.2)))) + 2)) true) else (if (wrap64 ((wrap64 (bt457.2 - (wrap64 (2 * bt459.2)))) + 2)) < 0 then (lathelaw02_FloatNearRoot.j0 k bt457.1 bt459.1 (wrap64 ((wrap64 (bt457.2 - (wrap64 (2 * bt459.2)))) + 2)) true) else (lathelaw02_FloatNearRoot.j0 k bt457.1 bt459.1 (wrap64 ((wrap64 (bt457.2 - (wrap64 (2 * bt459.2)))) + 2)) (decide ((wrap64 ((wrap64 (bt457.2 - (wrap64 (2 * bt459.2)))) + 2)) > 36))))) else (lathelaw02_FloatNearRoot.j0 k bt457.1 bt459.1 (wrap64 ((wrap64 (bt457.2 - (wrap64 (2 * bt459.2)))) + 2)) true)))))) = some r := h
  clear h
  replace H := Option.bind_eq_some_iff.mp H
  obtain ⟨t456, A20, H⟩ := H
  replace H : ((lathelaw02_parts.f a0).bind fun bt457 => ((lathelaw02_parts.f t456).bind fun bt459 => ((float_Finite.f a0).bind fun t461 => (if t461 = true then (if bt457.1 ≤ 0 then (lathelaw02_FloatNearRoot.j0 k bt457.1 bt459.1 (wrap64 ((wrap64 (bt457.2 - (wrap64 (2 * bt459.2)))) + 2)) true) else (if (wrap64 ((wrap64 (bt457.2 - (wrap64 (2 * bt459.2)))) + 2)) < 0 then (lathelaw02_FloatNearRoot.j0 k bt457.1 bt459.1 (wrap64 ((wrap64 (bt457.2 - (wrap64 (2 * bt459.2)))) + 2)) true) else (lathelaw02_FloatNearRoot.j0 k bt457.1 bt459.1 (wrap64 ((wrap64 (bt457.2 - (wrap64 (2 * bt459.2)))) + 2)) (decide ((wrap64 ((wrap64 (bt457.2 - (wrap64 (2 * bt459.2)))) + 2)) > 36))))) else (lathelaw02_FloatNearRoot.j0 k bt457.1 bt459.1 (wrap64 ((wrap64 (bt457.2 - (wrap64 (2 * bt459.2)))) + 2)) true))))) = some r := H
  have A2 := Aside0.mk A20
  clear A20
  replace H := Option.bind_eq_some_iff.mp H
  obtain ⟨⟨t457, t458⟩, A30, H⟩ := H
  replace H : ((lathelaw02_parts.f t456).bind fun bt459 => ((float_Finite.f a0).bind fun t461 => (if t461 = true then (if t457 ≤ 0 then (lathelaw02_FloatNearRoot.j0 k t457 bt459.1 (wrap64 ((wrap64 (t458 - (wrap64 (2 * bt459.2)))) + 2)) true) else (if (wrap64 ((wrap64 (t458 - (wrap64 (2 * bt459.2)))) + 2)) < 0 then (lathelaw02_FloatNearRoot.j0 k t457 bt459.1 (wrap64 ((wrap64 (t458 - (wrap64 (2 * bt459.2)))) + 2)) true) else (lathelaw02_FloatNearRoot.j0 k t457 bt459.1 (wrap64 ((wrap64 (t458 - (wrap64 (2 * bt459.2)))) + 2)) (decide ((wrap64 ((wrap64 (t458 - (wrap64 (2 * bt459.2)))) + 2)) > 36))))) else (lathelaw02_FloatNearRoot.j0 k t457 bt459.1 (wrap64 ((wrap64 (t458 - (wrap64 (2 * bt459.2)))) + 2)) true)))) = some r := H
  have A3 := Aside0.mk A30
  clear A30
  replace H := Option.bind_eq_some_iff.mp H
  obtain ⟨⟨t459, t460⟩, A40, H⟩ := H
  replace H : ((float_Finite.f a0).bind fun t461 => (if t461 = true then (if t457 ≤ 0 then (lathelaw02_FloatNearRoot.j0 k t457 t459 (wrap64 ((wrap64 (t458 - (wrap64 (2 * t460)))) + 2)) true) else (if (wrap64 ((wrap64 (t458 - (wrap64 (2 * t460)))) + 2)) < 0 then (lathelaw02_FloatNearRoot.j0 k t457 t459 (wrap64 ((wrap64 (t458 - (wrap64 (2 * t460)))) + 2)) true) else (lathelaw02_FloatNearRoot.j0 k t457 t459 (wrap64 ((wrap64 (t458 - (wrap64 (2 * t460)))) + 2)) (decide ((wrap64 ((wrap64 (t458 - (wrap64 (2 * t460)))) + 2)) > 36))))) else (lathelaw02_FloatNearRoot.j0 k t457 t459 (wrap64 ((wrap64 (t458 - (wrap64 (2 * t460)))) + 2)) true))) = some r := H
  have A4 := Aside0.mk A40
  clear A40
  have HC5 := Aside0.mk H
  clear H
  go_enter Try.func14, Try.ntmps14
  go_upto_region 5 with (first | ((with_reducible refine gate_callee (f := 60) rfl ?_); refine goesL_ (some 11) rfl rfl Try.func60 (by kernel_rfl) rfl #[.int .u32 a0] rfl (by (try simp only [List.map_toArray, List.map_cons, List.map_nil]); first | done | rfl | (simp only [List.length_drop, List.length_take]; rfl)) ?_; (with_reducible refine (float_Sqrt.calls a0 t456 _ A2.out).mono ?_); rintro e w' ⟨rfl, ⟨nd, rfl⟩⟩; refine ⟨_, rfl, ?_⟩) | ((with_reducible refine gate_callee (f := 57) rfl ?_); refine goesL_ (some 14) rfl rfl Try.func57 (by kernel_rfl) rfl #[.int .u32 a0] rfl (by (try simp only [List.map_toArray, List.map_cons, List.map_nil]); first | done | rfl | (simp only [List.length_drop, List.length_take]; rfl)) ?_; (with_reducible refine (lathelaw02_parts.calls a0 t457 t458 _ A3.out).mono ?_); rintro e w6 ⟨rfl, hb⟩; refine ⟨_, rfl, ?_⟩; have n0_ := Aside0.mk (below_step (by repeat (first | (with_reducible first | exact HB.out | apply below_alloc | apply pw_below_drewN | apply below_drew1) | exact HB.out)) hb); clear HB; have HB := n0_; clear n0_; (try clear hb); (try clear hb2); (try clear hk); (try clear hi)) | ((with_reducible refine gate_callee (f := 57) rfl ?_); refine goesL_ (some 19) rfl rfl Try.func57 (by kernel_rfl) rfl #[.int .u32 t456] rfl (by (try simp only [List.map_toArray, List.map_cons, List.map_nil]); first | done | rfl | (simp only [List.length_drop, List.length_take]; rfl)) ?_; (with_reducible refine (lathelaw02_parts.calls t456 t459 t460 _ A4.out).mono ?_); rintro e w7 ⟨rfl, hb⟩; refine ⟨_, rfl, ?_⟩; have n0_ := Aside0.mk (below_step (by repeat (first | (with_reducible first | exact HB.out | apply below_alloc | apply pw_below_drewN | apply below_drew1) | exact HB.out)) hb); clear HB; have HB := n0_; clear n0_; (try clear hb); (try clear hb2); (try clear hk); (try clear hi)))
  (try simp only [Act.put, List.setIfInBounds_toArray, List.set_cons_zero, List.set_cons_succ])
  go_cut [41] (fun v41 wc => ∃ (kq : Nat) (x41_4 : Bool), v41 = .bool x41_4 ∧ Aside0 (lathelaw02_FloatNearRoot.j0 kq t457 t459 (wrap64 ((wrap64 (t458 - (wrap64 (2 * t460)))) + 2)) x41_4 = some r) ∧ Aside0 (kq ≤ k) ∧ Aside0 (Below w.heap.size w wc))
  case first =>
    have H := HC5.out
    clear HC5
    replace H := Option.bind_eq_some_iff.mp H
    obtain ⟨t461, A80, H⟩ := H
    replace H : (if t461 = true then (if t457 ≤ 0 then (lathelaw02_FloatNearRoot.j0 k t457 t459 (wrap64 ((wrap64 (t458 - (wrap64 (2 * t460)))) + 2)) true) else (if (wrap64 ((wrap64 (t458 - (wrap64 (2 * t460)))) + 2)) < 0 then (lathelaw02_FloatNearRoot.j0 k t457 t459 (wrap64 ((wrap64 (t458 - (wrap64 (2 * t460)))) + 2)) true) else (lathelaw02_FloatNearRoot.j0 k t457 t459 (wrap64 ((wrap64 (t458 - (wrap64 (2 * t460)))) + 2)) (decide ((wrap64 ((wrap64 (t458 - (wrap64 (2 * t460)))) + 2)) > 36))))) else (lathelaw02_FloatNearRoot.j0 k t457 t459 (wrap64 ((wrap64 (t458 - (wrap64 (2 * t460)))) + 2)) true)) = some r := H
    have A8 := Aside0.mk A80
    clear A80
    by_cases c9 : t461 = true
    · subst c9
      have H1 : (if t457 ≤ 0 then (lathelaw02_FloatNearRoot.j0 k t457 t459 (wrap64 ((wrap64 (t458 - (wrap64 (2 * t460)))) + 2)) true) else (if (wrap64 ((wrap64 (t458 - (wrap64 (2 * t460)))) + 2)) < 0 then (lathelaw02_FloatNearRoot.j0 k t457 t459 (wrap64 ((wrap64 (t458 - (wrap64 (2 * t460)))) + 2)) true) else (lathelaw02_FloatNearRoot.j0 k t457 t459 (wrap64 ((wrap64 (t458 - (wrap64 (2 * t460)))) + 2)) (decide ((wrap64 ((wrap64 (t458 - (wrap64 (2 * t460)))) + 2)) > 36))))) = some r := by rw [if_pos rfl] at H; exact H
      clear H
      have H := H1
      clear H1
      by_cases c10 : t457 ≤ 0
      · rw [if_pos c10] at H
        have c10b0 : decide (t457 ≤ 0) = true := decide_eq_true c10
        clear c10
        (first | rw [c10b0] | (simp only [i64_w, i32_w]; rw [c10b0]) | skip)
        have H' := Aside0.mk H
        clear H
        go_wp2_with (first | ((with_reducible refine gate_callee (f := 58) rfl ?_); refine goesL_ (some 28) rfl rfl Try.func58 (by kernel_rfl) rfl #[.int .u32 a0] rfl (by (try simp only [List.map_toArray, List.map_cons, List.map_nil]); first | done | rfl | (simp only [List.length_drop, List.length_take]; rfl)) ?_; (with_reducible refine (float_Finite.calls a0 true _ A8.out).mono ?_); rintro e w' ⟨rfl, ⟨nd, rfl⟩⟩; refine ⟨_, rfl, ?_⟩))
        go_meet
        case rel => exact ⟨_, (true), (by first | rfl | (simp; done) | (simp [*]; done)), H', ⟨by first | omega | exact Nat.le_refl _⟩, ⟨by repeat (first | (with_reducible first | exact HB.out | apply below_alloc | apply pw_below_drewN | apply below_drew1) | exact HB.out)⟩⟩
      · rw [if_neg c10] at H
        have c10b0 : decide (t457 ≤ 0) = false := decide_eq_false c10
        clear c10
        (first | rw [c10b0] | (simp only [i64_w, i32_w]; rw [c10b0]) | skip)
        by_cases c11 : (wrap64 ((wrap64 (t458 - (wrap64 (2 * t460)))) + 2)) < 0
        · rw [if_pos c11] at H
          have c11b0 : decide ((wrap64 ((wrap64 (t458 - (wrap64 (2 * t460)))) + 2)) < 0) = true := decide_eq_true c11
          clear c11
          have H' := Aside0.mk H
          clear H
          go_wp2_with (first | ((with_reducible refine gate_callee (f := 58) rfl ?_); refine goesL_ (some 28) rfl rfl Try.func58 (by kernel_rfl) rfl #[.int .u32 a0] rfl (by (try simp only [List.map_toArray, List.map_cons, List.map_nil]); first | done | rfl | (simp only [List.length_drop, List.length_take]; rfl)) ?_; (with_reducible refine (float_Finite.calls a0 true _ A8.out).mono ?_); rintro e w' ⟨rfl, ⟨nd, rfl⟩⟩; refine ⟨_, rfl, ?_⟩))
          go_meet
          case rel => exact ⟨_, (true), (by first | rfl | (simp; done) | (simp [*]; done)), H', ⟨by first | omega | exact Nat.le_refl _⟩, ⟨by repeat (first | (with_reducible first | exact HB.out | apply below_alloc | apply pw_below_drewN | apply below_drew1) | exact HB.out)⟩⟩
        · rw [if_neg c11] at H
          have c11b0 : decide ((wrap64 ((wrap64 (t458 - (wrap64 (2 * t460)))) + 2)) < 0) = false := decide_eq_false c11
          clear c11
          have H' := Aside0.mk H
          clear H
          go_wp2_with (first | ((with_reducible refine gate_callee (f := 58) rfl ?_); refine goesL_ (some 28) rfl rfl Try.func58 (by kernel_rfl) rfl #[.int .u32 a0] rfl (by (try simp only [List.map_toArray, List.map_cons, List.map_nil]); first | done | rfl | (simp only [List.length_drop, List.length_take]; rfl)) ?_; (with_reducible refine (float_Finite.calls a0 true _ A8.out).mono ?_); rintro e w' ⟨rfl, ⟨nd, rfl⟩⟩; refine ⟨_, rfl, ?_⟩))
          go_meet
          case rel => exact ⟨_, (decide ((wrap64 ((wrap64 (t458 - (wrap64 (2 * t460)))) + 2)) > 36)), (by first | rfl | (simp; done) | (simp [*]; done)), H', ⟨by first | omega | exact Nat.le_refl _⟩, ⟨by repeat (first | (with_reducible first | exact HB.out | apply below_alloc | apply pw_below_drewN | apply below_drew1) | exact HB.out)⟩⟩
    · replace c9 := Bool.eq_false_iff.mpr c9
      subst c9
      have H1 : (lathelaw02_FloatNearRoot.j0 k t457 t459 (wrap64 ((wrap64 (t458 - (wrap64 (2 * t460)))) + 2)) true) = some r := by rw [if_neg (show ¬ (false = true) by decide)] at H; exact H
      clear H
      have H := H1
      clear H1
      have H' := Aside0.mk H
      clear H
      go_wp2_with (first | ((with_reducible refine gate_callee (f := 58) rfl ?_); refine goesL_ (some 28) rfl rfl Try.func58 (by kernel_rfl) rfl #[.int .u32 a0] rfl (by (try simp only [List.map_toArray, List.map_cons, List.map_nil]); first | done | rfl | (simp only [List.length_drop, List.length_take]; rfl)) ?_; (with_reducible refine (float_Finite.calls a0 false _ A8.out).mono ?_); rintro e w' ⟨rfl, ⟨nd, rfl⟩⟩; refine ⟨_, rfl, ?_⟩))
      go_meet
      case rel => exact ⟨_, (true), (by first | rfl | (simp; done) | (simp [*]; done)), H', ⟨by first | omega | exact Nat.le_refl _⟩, ⟨by repeat (first | (with_reducible first | exact HB.out | apply below_alloc | apply pw_below_drewN | apply below_drew1) | exact HB.out)⟩⟩
  case rest =>
    clear HC5
    try clear c1
    try clear p2
    try clear c5
    try clear c6
    try clear p6
    try clear c9
    try clear c10
    try clear c10b0
    try clear c11
    try clear c11b0
    obtain ⟨kq, x41_4, rfl, HA, HJ4, HB⟩ := hcut
    cases kq with
    | zero => exact absurd HA.out (by simp [lathelaw02_FloatNearRoot.j0])
    | succ kj4 =>
      have H := HA.out
      clear HA
      simp only [lathelaw02_FloatNearRoot.j0] at H
      by_cases c12 : x41_4 = true
      · subst c12
        have H1 : ((lathelaw02_works.f).bind fun t462 => (some t462)) = some r := by rw [if_pos rfl] at H; exact H
        clear H
        have H := H1
        clear H1
        replace H := Option.bind_eq_some_iff.mp H
        obtain ⟨t462, A130, H⟩ := H
        replace H : (some t462) = some r := H
        have A13 := Aside0.mk A130
        clear A130
        obtain rfl := Option.some.inj H
        go_wp2_with (first | ((with_reducible refine gate_callee (f := 50) rfl ?_); refine goesL_ (some 42) rfl rfl Try.func50 (by kernel_rfl) rfl #[] rfl (by (try simp only [List.map_toArray, List.map_cons, List.map_nil]); first | done | rfl | (simp only [List.length_drop, List.length_take]; rfl)) ?_; (with_reducible refine (lathelaw02_works.calls  t462 _ A13.out).mono ?_); rintro e w' ⟨rfl, ⟨nd, rfl⟩⟩; refine ⟨_, rfl, ?_⟩))
        go_ret
        exact ⟨by first | rfl | (simp [errW_none, errW_some] <;> rfl) | (simp [*, errW_none, errW_some] <;> rfl), by repeat (first | (with_reducible first | exact HB.out | apply below_alloc | apply pw_below_drewN | apply below_drew1) | exact HB.out)⟩
      · replace c12 := Bool.eq_false_iff.mpr c12
        subst c12
        have H1 : (if 0 ≤ (IntKind.u64.wrap ((wrap64 ((wrap64 (t458 - (wrap64 (2 * t460)))) + 2)))) then (if (wrap64 ((wrap64 ((wrap64 (2 * t459)) - 1)) * (wrap64 ((wrap64 (2 * t459)) - 1)))) < (shl .i64 t457 (IntKind.u64.wrap ((wrap64 ((wrap64 (t458 - (wrap64 (2 * t460)))) + 2))))) then (if (shl .i64 t457 (IntKind.u64.wrap ((wrap64 ((wrap64 (t458 - (wrap64 (2 * t460)))) + 2))))) < (wrap64 ((wrap64 ((wrap64 (2 * t459)) + 1)) * (wrap64 ((wrap64 (2 * t459)) + 1)))) then ((lathelaw02_works.f).bind fun t463 => (some t463)) else (some false)) else (some false)) else (none)) = some r := by rw [if_neg (show ¬ (false = true) by decide)] at H; exact H
        clear H
        have H := H1
        clear H1
        obtain ⟨ji14, hji14⟩ : ∃ j_ : Int, (IntKind.u64.wrap ((wrap64 ((wrap64 (t458 - (wrap64 (2 * t460)))) + 2)))) = j_ := ⟨_, rfl⟩
        replace H : (if 0 ≤ (ji14) then (if (wrap64 ((wrap64 ((wrap64 (2 * t459)) - 1)) * (wrap64 ((wrap64 (2 * t459)) - 1)))) < (shl .i64 t457 (ji14)) then (if (shl .i64 t457 (ji14)) < (wrap64 ((wrap64 ((wrap64 (2 * t459)) + 1)) * (wrap64 ((wrap64 (2 * t459)) + 1)))) then ((lathelaw02_works.f).bind fun t463 => (some t463)) else (some false)) else (some false)) else (none)) = some r := by first | (rw [hji14] at H; exact H) | (simp only [hji14] at H ⊢; exact H)
        by_cases c15 : 0 ≤ (ji14)
        · rw [if_pos c15] at H
          have c15b0 := eq_true c15
          have c15b1 : decide (0 ≤ (ji14)) = true := decide_eq_true c15
          clear c15
          obtain ⟨ji16, hji16⟩ : ∃ j_ : Int, (shl .i64 t457 (ji14)) = j_ := ⟨_, rfl⟩
          replace H : (if (wrap64 ((wrap64 ((wrap64 (2 * t459)) - 1)) * (wrap64 ((wrap64 (2 * t459)) - 1)))) < (ji16) then (if (ji16) < (wrap64 ((wrap64 ((wrap64 (2 * t459)) + 1)) * (wrap64 ((wrap64 (2 * t459)) + 1)))) then ((lathelaw02_works.f).bind fun t463 => (some t463)) else (some false)) else (some false)) = some r := by first | (rw [hji16] at H; exact H) | (simp only [hji16] at H ⊢; exact H)
          have hji16_ : (IntKind.i64.wrap (t457 * 2 ^ min (ji14).toNat 64)) = ji16 := hji16
          have hji16z : (ji14) ≤ 64 → (IntKind.i64.wrap (t457 * 2 ^ (ji14).toNat)) = ji16 := shl_small hji16
          have hji16y : (wrap64 (t457 * 2 ^ min (ji14).toNat 64)) = ji16 := (i64_w _).symm.trans hji16_
          have hji16x : (ji14) ≤ 64 → (wrap64 (t457 * 2 ^ (ji14).toNat)) = ji16 := fun h_ => (i64_w _).symm.trans (hji16z h_)
          by_cases c17 : (wrap64 ((wrap64 ((wrap64 (2 * t459)) - 1)) * (wrap64 ((wrap64 (2 * t459)) - 1)))) < (ji16)
          · rw [if_pos c17] at H
            have c17b0 : decide ((wrap64 ((wrap64 ((wrap64 (2 * t459)) - 1)) * (wrap64 ((wrap64 (2 * t459)) - 1)))) < (ji16)) = true := decide_eq_true c17
            clear c17
            by_cases c18 : (ji16) < (wrap64 ((wrap64 ((wrap64 (2 * t459)) + 1)) * (wrap64 ((wrap64 (2 * t459)) + 1))))
            · rw [if_pos c18] at H
              have c18b0 : decide ((ji16) < (wrap64 ((wrap64 ((wrap64 (2 * t459)) + 1)) * (wrap64 ((wrap64 (2 * t459)) + 1))))) = true := decide_eq_true c18
              clear c18
              replace H := Option.bind_eq_some_iff.mp H
              obtain ⟨t463, A190, H⟩ := H
              replace H : (some t463) = some r := H
              have A19 := Aside0.mk A190
              clear A190
              obtain rfl := Option.some.inj H
              go_wp2_with (first | (go_at_call 50; (with_reducible refine (lathelaw02_works.calls  t463 _ A19.out).mono ?_); clear A19; rintro e w' ⟨rfl, ⟨nd, rfl⟩⟩))
              go_ret
              exact ⟨by first | rfl | (simp [errW_none, errW_some] <;> rfl) | (simp only [← hji14, ← hji16]; first | rfl | (simp [errW_none, errW_some] <;> rfl)) | (simp [*, errW_none, errW_some] <;> rfl), by repeat (first | (with_reducible first | exact HB.out | apply below_alloc | apply pw_below_drewN | apply below_drew1) | exact HB.out)⟩
            · rw [if_neg c18] at H
              have c18b0 : decide ((ji16) < (wrap64 ((wrap64 ((wrap64 (2 * t459)) + 1)) * (wrap64 ((wrap64 (2 * t459)) + 1))))) = false := decide_eq_false c18
              clear c18
              obtain rfl := Option.some.inj H
              go_wp2
              go_ret
              exact ⟨by first | rfl | (simp [errW_none, errW_some] <;> rfl) | (simp only [← hji14, ← hji16]; first | rfl | (simp [errW_none, errW_some] <;> rfl)) | (simp [*, errW_none, errW_some] <;> rfl), by repeat (first | (with_reducible first | exact HB.out | apply below_alloc | apply pw_below_drewN | apply below_drew1) | exact HB.out)⟩
          · rw [if_neg c17] at H
            have c17b0 : decide ((wrap64 ((wrap64 ((wrap64 (2 * t459)) - 1)) * (wrap64 ((wrap64 (2 * t459)) - 1)))) < (ji16)) = false := decide_eq_false c17
            clear c17
            obtain rfl := Option.some.inj H
            go_wp2
            go_ret
            exact ⟨by first | rfl | (simp [errW_none, errW_some] <;> rfl) | (simp only [← hji14, ← hji16]; first | rfl | (simp [errW_none, errW_some] <;> rfl)) | (simp [*, errW_none, errW_some] <;> rfl), by repeat (first | (with_reducible first | exact HB.out | apply below_alloc | apply pw_below_drewN | apply below_drew1) | exact HB.out)⟩
        · rw [if_neg c15] at H
          exact absurd H (by simp)

/-- THE ONE PURE STATEMENT of lathelaw02_FloatNearRoot: yours. -/
def lathelaw02_FloatNearRoot.Pure : Prop := ∀ (a0 : Int), (Lit.int .u32 a0).wf = true → ∃ k, lathelaw02_FloatNearRoot.f k a0 = some true
theorem lathelaw02_FloatNearRoot.walk (P : lathelaw02_FloatNearRoot.Pure) (a0 : Int) (w : World) (w0 : (Lit.int .u32 a0).wf = true) :
    Calls Try.prog 14 #[.int .u32 a0] w fun e w' => e = .returned (.bool true) ∧ Below w.heap.size w w' := by
  obtain ⟨k, h⟩ := P a0 w0
  refine (lathelaw02_FloatNearRoot.calls k a0 true w h).mono ?_
  rintro e w' ⟨rfl, hd⟩
  exact ⟨rfl, hd⟩

end Go.Proofs.Ytcegmbplgghjnaa.PF
