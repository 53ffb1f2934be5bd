/- The functions of the program that a statement reaches, as plain functions, and that the machine's calls do what these say. No condition. (Printed by a program.) -/
import Derived.Test.YtcegmbplgghjnaaPFx0
import Derived.Test.YtcegmbplgghjnaaPFx2
import Derived.Test.YtcegmbplgghjnaaPFx4
import Derived.Test.YtcegmbplgghjnaaPFx7
import Derived.Test.YtcegmbplgghjnaaPFx11
import Derived.Test.YtcegmbplgghjnaaPFx13
namespace Go.Proofs.Ytcegmbplgghjnaa.PF
open Go.RowKit Go.Proofs.YtcegmbplgghjnaaW.PrintWords Go.Proofs.YtcegmbplgghjnaaW.PrintLast Go.Proofs.YtcegmbplgghjnaaW.PrintMore
attribute [local go_sem] max2_int min2_int max_two min_two max_three min_three max_four min_four   -- for this text's walks alone
set_option linter.unusedVariables false
set_option linter.unusedSimpArgs false

/-! ### lathelaw02_FloatWholes: function 22 -/
def lathelaw02_FloatWholes.f (k : Nat) (a0 : Int) (a1 : Int) : Option (Bool) := (float_FromInt.f a1).bind fun t354 => ((lathelaw02_n.f t354).bind fun t355 => ((latheref02_FromInt.f k a1).bind fun t356 => (if t355 = t356 then ((float_Power.f a0 a1).bind fun t357 => ((lathelaw02_n.f t357).bind fun t358 => ((lathelaw02_n.f a0).bind fun t359 => ((latheref02_Power.f k t359 a1).bind fun t360 => (if t358 = t360 then ((lathelaw02_works.f).bind fun t361 => (some t361)) else (some false)))))) else (some false))))
theorem lathelaw02_FloatWholes.mono : ∀ a0 a1 k, LeO (lathelaw02_FloatWholes.f k a0 a1) (lathelaw02_FloatWholes.f (k + 1) a0 a1) := by
  intro a0 a1 k
  unfold lathelaw02_FloatWholes.f
  repeat' first
      | (with_reducible exact latheref02_FromInt.mono _ _)
      | (with_reducible exact latheref02_Power.mono _ _ _)
      | (with_reducible exact LeO.refl _)
      | (with_reducible exact LeO.none _)
      | (with_reducible refine LeO.ite ?_ ?_)
      | (with_reducible refine LeO.bind ?_ (fun _ => ?_))
      | exact latheref02_FromInt.mono _ _
      | exact latheref02_Power.mono _ _ _
      | exact LeO.none _
      | refine LeO.ite ?_ ?_
      | refine LeO.bind ?_ (fun _ => ?_)
set_option maxHeartbeats 8000000 in
set_option maxRecDepth 100000 in
theorem lathelaw02_FloatWholes.calls (k : Nat) (a0 : Int) (a1 : Int) (r : Bool) (w : World) (h : lathelaw02_FloatWholes.f k a0 a1 = some r) :
    Calls Try.prog 22 #[.int .u32 a0, .int .i64 a1] w fun e w' => e = .returned (.bool r) ∧ Below w.heap.size w w' := by
  have HB := Aside0.mk (Below.refl w.heap.size w)
  have H : ((float_FromInt.f a1).bind fun t354 => ((lathelaw02_n.f t354).bind fun t355 => ((latheref02_FromInt.f k a1).bind fun t356 => (if t355 = t356 then ((float_Power.f a0 a1).bind fun t357 => ((lathelaw02_n.f t357).bind fun t358 => ((lathelaw02_n.f a0).bind fun t359 => ((latheref02_Power.f k t359 a1).bind fun t360 => (if t358 = t360 then ((lathelaw02_works.f).bind fun t361 => (some t361)) else (some false)))))) else (some false))))) = some r := h
  clear h
  replace H := Option.bind_eq_some_iff.mp H
  obtain ⟨t354, A30, H⟩ := H
  replace H : ((lathelaw02_n.f t354).bind fun t355 => ((latheref02_FromInt.f k a1).bind fun t356 => (if t355 = t356 then ((float_Power.f a0 a1).bind fun t357 => ((lathelaw02_n.f t357).bind fun t358 => ((lathelaw02_n.f a0).bind fun t359 => ((latheref02_Power.f k t359 a1).bind fun t360 => (if t358 = t360 then ((lathelaw02_works.f).bind fun t361 => (some t361)) else (some false)))))) else (some false)))) = some r := H
  have A3 := Aside0.mk A30
  clear A30
  replace H := Option.bind_eq_some_iff.mp H
  obtain ⟨t355, A40, H⟩ := H
  replace H : ((latheref02_FromInt.f k a1).bind fun t356 => (if t355 = t356 then ((float_Power.f a0 a1).bind fun t357 => ((lathelaw02_n.f t357).bind fun t358 => ((lathelaw02_n.f a0).bind fun t359 => ((latheref02_Power.f k t359 a1).bind fun t360 => (if t358 = t360 then ((lathelaw02_works.f).bind fun t361 => (some t361)) else (some false)))))) else (some false))) = some r := H
  have A4 := Aside0.mk A40
  clear A40
  replace H := Option.bind_eq_some_iff.mp H
  obtain ⟨t356, A50, H⟩ := H
  replace H : (if t355 = t356 then ((float_Power.f a0 a1).bind fun t357 => ((lathelaw02_n.f t357).bind fun t358 => ((lathelaw02_n.f a0).bind fun t359 => ((latheref02_Power.f k t359 a1).bind fun t360 => (if t358 = t360 then ((lathelaw02_works.f).bind fun t361 => (some t361)) else (some false)))))) else (some false)) = some r := H
  have A5 := Aside0.mk A50
  clear A50
  by_cases c6 : t355 = t356
  · rw [if_pos c6] at H
    have c6b0 : (t355 == t356) = true := beq_iff_eq.mpr c6
    have c6b1 : (t355 != t356) = false := bne_eq_false_iff_eq.mpr c6
    clear c6
    replace H := Option.bind_eq_some_iff.mp H
    obtain ⟨t357, A70, H⟩ := H
    replace H : ((lathelaw02_n.f t357).bind fun t358 => ((lathelaw02_n.f a0).bind fun t359 => ((latheref02_Power.f k t359 a1).bind fun t360 => (if t358 = t360 then ((lathelaw02_works.f).bind fun t361 => (some t361)) else (some false))))) = some r := H
    have A7 := Aside0.mk A70
    clear A70
    replace H := Option.bind_eq_some_iff.mp H
    obtain ⟨t358, A80, H⟩ := H
    replace H : ((lathelaw02_n.f a0).bind fun t359 => ((latheref02_Power.f k t359 a1).bind fun t360 => (if t358 = t360 then ((lathelaw02_works.f).bind fun t361 => (some t361)) else (some false)))) = some r := H
    have A8 := Aside0.mk A80
    clear A80
    replace H := Option.bind_eq_some_iff.mp H
    obtain ⟨t359, A90, H⟩ := H
    replace H : ((latheref02_Power.f k t359 a1).bind fun t360 => (if t358 = t360 then ((lathelaw02_works.f).bind fun t361 => (some t361)) else (some false))) = some r := H
    have A9 := Aside0.mk A90
    clear A90
    replace H := Option.bind_eq_some_iff.mp H
    obtain ⟨t360, A100, H⟩ := H
    replace H : (if t358 = t360 then ((lathelaw02_works.f).bind fun t361 => (some t361)) else (some false)) = some r := H
    have A10 := Aside0.mk A100
    clear A100
    by_cases c11 : t358 = t360
    · rw [if_pos c11] at H
      have c11b0 : (t358 == t360) = true := beq_iff_eq.mpr c11
      have c11b1 : (t358 != t360) = false := bne_eq_false_iff_eq.mpr c11
      clear c11
      replace H := Option.bind_eq_some_iff.mp H
      obtain ⟨t361, A120, H⟩ := H
      replace H : (some t361) = some r := H
      have A12 := Aside0.mk A120
      clear A120
      obtain rfl := Option.some.inj H
      go_enter Try.func22, Try.ntmps22
      go_wp2_with (first | ((with_reducible refine gate_callee (f := 69) rfl ?_); refine goesL_ (some 6) rfl rfl Try.func69 (by kernel_rfl) rfl #[.int .i64 a1] rfl (by (try simp only [List.map_toArray, List.map_cons, List.map_nil]); first | done | rfl | (simp only [List.length_drop, List.length_take]; rfl)) ?_; (with_reducible refine (float_FromInt.calls a1 t354 _ A3.out).mono ?_); rintro e w' ⟨rfl, ⟨nd, rfl⟩⟩; refine ⟨_, rfl, ?_⟩) | ((with_reducible refine gate_callee (f := 47) rfl ?_); refine goesL_ (some 7) rfl rfl Try.func47 (by kernel_rfl) rfl #[.int .u32 t354] rfl (by (try simp only [List.map_toArray, List.map_cons, List.map_nil]); first | done | rfl | (simp only [List.length_drop, List.length_take]; rfl)) ?_; (with_reducible refine (lathelaw02_n.calls t354 t355 _ A4.out).mono ?_); rintro e w' ⟨rfl, ⟨nd, rfl⟩⟩; refine ⟨_, rfl, ?_⟩) | ((with_reducible refine gate_callee (f := 30) rfl ?_); refine goesL_ (some 9) rfl rfl Try.func30 (by kernel_rfl) rfl #[.int .i64 a1] rfl (by (try simp only [List.map_toArray, List.map_cons, List.map_nil]); first | done | rfl | (simp only [List.length_drop, List.length_take]; rfl)) ?_; (with_reducible refine (latheref02_FromInt.calls k a1 t356 _ A5.out).mono ?_); rintro e w13 ⟨rfl, hb⟩; refine ⟨_, rfl, ?_⟩; have n0_ := Aside0.mk (below_step (by repeat (first | (with_reducible first | exact HB.out | apply below_alloc | apply pw_below_drewN | apply below_drew1) | exact HB.out)) hb); clear HB; have HB := n0_; clear n0_; (try clear hb); (try clear hb2); (try clear hk); (try clear hi)) | (go_at_call 82; (with_reducible refine (float_Power.calls a0 a1 t357 _ A7.out).mono ?_); clear A7; rintro e w' ⟨rfl, ⟨nd, rfl⟩⟩) | (go_at_call 47; (with_reducible refine (lathelaw02_n.calls t357 t358 _ A8.out).mono ?_); clear A8; rintro e w' ⟨rfl, ⟨nd, rfl⟩⟩) | (go_at_call 47; (with_reducible refine (lathelaw02_n.calls a0 t359 _ A9.out).mono ?_); clear A9; rintro e w' ⟨rfl, ⟨nd, rfl⟩⟩) | (go_at_call 83; (with_reducible refine (latheref02_Power.calls k t359 a1 t360 _ A10.out).mono ?_); clear A10; rintro e w14 ⟨rfl, hb⟩; have n0_ := Aside0.mk (below_step (by repeat (first | (with_reducible first | exact HB.out | apply below_alloc | apply pw_below_drewN | apply below_drew1) | exact HB.out)) hb); clear HB; have HB := n0_; clear n0_; (try clear hb); (try clear hb2); (try clear hk); (try clear hi)) | (go_at_call 50; (with_reducible refine (lathelaw02_works.calls  t361 _ A12.out).mono ?_); clear A12; rintro e w' ⟨rfl, ⟨nd, rfl⟩⟩))
      go_ret
      exact ⟨by first | rfl | (simp [errW_none, errW_some] <;> rfl) | (simp [*, errW_none, errW_some] <;> rfl), by repeat (first | (with_reducible first | exact HB.out | apply below_alloc | apply pw_below_drewN | apply below_drew1) | exact HB.out)⟩
    · rw [if_neg c11] at H
      have c11b0 : (t358 == t360) = false := beq_eq_false_iff_ne.mpr c11
      have c11b1 : (t358 != t360) = true := bne_iff_ne.mpr c11
      obtain rfl := Option.some.inj H
      go_enter Try.func22, Try.ntmps22
      go_wp2_with (first | ((with_reducible refine gate_callee (f := 69) rfl ?_); refine goesL_ (some 6) rfl rfl Try.func69 (by kernel_rfl) rfl #[.int .i64 a1] rfl (by (try simp only [List.map_toArray, List.map_cons, List.map_nil]); first | done | rfl | (simp only [List.length_drop, List.length_take]; rfl)) ?_; (with_reducible refine (float_FromInt.calls a1 t354 _ A3.out).mono ?_); rintro e w' ⟨rfl, ⟨nd, rfl⟩⟩; refine ⟨_, rfl, ?_⟩) | ((with_reducible refine gate_callee (f := 47) rfl ?_); refine goesL_ (some 7) rfl rfl Try.func47 (by kernel_rfl) rfl #[.int .u32 t354] rfl (by (try simp only [List.map_toArray, List.map_cons, List.map_nil]); first | done | rfl | (simp only [List.length_drop, List.length_take]; rfl)) ?_; (with_reducible refine (lathelaw02_n.calls t354 t355 _ A4.out).mono ?_); rintro e w' ⟨rfl, ⟨nd, rfl⟩⟩; refine ⟨_, rfl, ?_⟩) | ((with_reducible refine gate_callee (f := 30) rfl ?_); refine goesL_ (some 9) rfl rfl Try.func30 (by kernel_rfl) rfl #[.int .i64 a1] rfl (by (try simp only [List.map_toArray, List.map_cons, List.map_nil]); first | done | rfl | (simp only [List.length_drop, List.length_take]; rfl)) ?_; (with_reducible refine (latheref02_FromInt.calls k a1 t356 _ A5.out).mono ?_); rintro e w15 ⟨rfl, hb⟩; refine ⟨_, rfl, ?_⟩; have n0_ := Aside0.mk (below_step (by repeat (first | (with_reducible first | exact HB.out | apply below_alloc | apply pw_below_drewN | apply below_drew1) | exact HB.out)) hb); clear HB; have HB := n0_; clear n0_; (try clear hb); (try clear hb2); (try clear hk); (try clear hi)) | (go_at_call 82; (with_reducible refine (float_Power.calls a0 a1 t357 _ A7.out).mono ?_); clear A7; rintro e w' ⟨rfl, ⟨nd, rfl⟩⟩) | (go_at_call 47; (with_reducible refine (lathelaw02_n.calls t357 t358 _ A8.out).mono ?_); clear A8; rintro e w' ⟨rfl, ⟨nd, rfl⟩⟩) | (go_at_call 47; (with_reducible refine (lathelaw02_n.calls a0 t359 _ A9.out).mono ?_); clear A9; rintro e w' ⟨rfl, ⟨nd, rfl⟩⟩) | (go_at_call 83; (with_reducible refine (latheref02_Power.calls k t359 a1 t360 _ A10.out).mono ?_); clear A10; rintro e w16 ⟨rfl, hb⟩; have n0_ := Aside0.mk (below_step (by repeat (first | (with_reducible first | exact HB.out | apply below_alloc | apply pw_below_drewN | apply below_drew1) | exact HB.out)) hb); clear HB; have HB := n0_; clear n0_; (try clear hb); (try clear hb2); (try clear hk); (try clear hi)))
      go_ret
      exact ⟨by first | rfl | (simp [errW_none, errW_some] <;> rfl) | (simp [*, errW_none, errW_some] <;> rfl), by repeat (first | (with_reducible first | exact HB.out | apply below_alloc | apply pw_below_drewN | apply below_drew1) | exact HB.out)⟩
  · rw [if_neg c6] at H
    have c6b0 : (t355 == t356) = false := beq_eq_false_iff_ne.mpr c6
    have c6b1 : (t355 != t356) = true := bne_iff_ne.mpr c6
    obtain rfl := Option.some.inj H
    go_enter Try.func22, Try.ntmps22
    go_wp2_with (first | ((with_reducible refine gate_callee (f := 69) rfl ?_); refine goesL_ (some 6) rfl rfl Try.func69 (by kernel_rfl) rfl #[.int .i64 a1] rfl (by (try simp only [List.map_toArray, List.map_cons, List.map_nil]); first | done | rfl | (simp only [List.length_drop, List.length_take]; rfl)) ?_; (with_reducible refine (float_FromInt.calls a1 t354 _ A3.out).mono ?_); rintro e w' ⟨rfl, ⟨nd, rfl⟩⟩; refine ⟨_, rfl, ?_⟩) | ((with_reducible refine gate_callee (f := 47) rfl ?_); refine goesL_ (some 7) rfl rfl Try.func47 (by kernel_rfl) rfl #[.int .u32 t354] rfl (by (try simp only [List.map_toArray, List.map_cons, List.map_nil]); first | done | rfl | (simp only [List.length_drop, List.length_take]; rfl)) ?_; (with_reducible refine (lathelaw02_n.calls t354 t355 _ A4.out).mono ?_); rintro e w' ⟨rfl, ⟨nd, rfl⟩⟩; refine ⟨_, rfl, ?_⟩) | ((with_reducible refine gate_callee (f := 30) rfl ?_); refine goesL_ (some 9) rfl rfl Try.func30 (by kernel_rfl) rfl #[.int .i64 a1] rfl (by (try simp only [List.map_toArray, List.map_cons, List.map_nil]); first | done | rfl | (simp only [List.length_drop, List.length_take]; rfl)) ?_; (with_reducible refine (latheref02_FromInt.calls k a1 t356 _ A5.out).mono ?_); rintro e w17 ⟨rfl, hb⟩; refine ⟨_, rfl, ?_⟩; have n0_ := Aside0.mk (below_step (by repeat (first | (with_reducible first | exact HB.out | apply below_alloc | apply pw_below_drewN | apply below_drew1) | exact HB.out)) hb); clear HB; have HB := n0_; clear n0_; (try clear hb); (try clear hb2); (try clear hk); (try clear hi)))
    go_ret
    exact ⟨by first | rfl | (simp [errW_none, errW_some] <;> rfl) | (simp [*, errW_none, errW_some] <;> rfl), by repeat (first | (with_reducible first | exact HB.out | apply below_alloc | apply pw_below_drewN | apply below_drew1) | exact HB.out)⟩

/-- THE ONE PURE STATEMENT of lathelaw02_FloatWholes: yours. -/
def lathelaw02_FloatWholes.Pure : Prop := ∀ (a0 : Int) (a1 : Int), (Lit.int .u32 a0).wf = true → (Lit.int .i64 a1).wf = true → ∃ k, lathelaw02_FloatWholes.f k a0 a1 = some true
theorem lathelaw02_FloatWholes.walk (P : lathelaw02_FloatWholes.Pure) (a0 : Int) (a1 : Int) (w : World) (w0 : (Lit.int .u32 a0).wf = true) (w1 : (Lit.int .i64 a1).wf = true) :
    Calls Try.prog 22 #[.int .u32 a0, .int .i64 a1] w fun e w' => e = .returned (.bool true) ∧ Below w.heap.size w w' := by
  obtain ⟨k, h⟩ := P a0 a1 w0 w1
  refine (lathelaw02_FloatWholes.calls k a0 a1 true w h).mono ?_
  rintro e w' ⟨rfl, hd⟩
  exact ⟨rfl, hd⟩

/-! ### lathelaw02_FloatTurns: function 20 -/
mutual
def lathelaw02_FloatTurns.j0 : Nat → Int → Int → Bool → Option (Bool)
  | 0, _, _, _ => none
  | k + 1, x0, x1, x47 => if x47 = true then (some false) else ((float_Neg.f x0).bind fun t372 => ((float_Mul.f t372 x1).bind fun t373 => ((float_Mul.f x0 x1).bind fun t374 => ((float_Neg.f t374).bind fun t375 => (if t373 = t375 then ((float_Neg.f x0).bind fun t376 => ((float_Div.f t376 x1).bind fun t377 => ((float_Div.f x0 x1).bind fun t378 => ((float_Neg.f t378).bind fun t379 => (lathelaw02_FloatTurns.j1 k x0 (t377 != t379)))))) else (lathelaw02_FloatTurns.j1 k x0 true))))))
def lathelaw02_FloatTurns.j1 : Nat → Int → Bool → Option (Bool)
  | 0, _, _ => none
  | k + 1, x0, x67 => if x67 = true then (some false) else ((float_Finite.f x0).bind fun t380 => (if t380 = true then ((float_Sub.f x0 x0).bind fun t381 => (if t381 = 0 then ((float_Neg.f x0).bind fun t382 => ((float_Neg.f t382).bind fun t383 => (if t383 = x0 then ((lathelaw02_works.f).bind fun t384 => (some t384)) else (some false)))) else (some false))) else ((lathelaw02_works.f).bind fun t385 => (some t385))))
end
def lathelaw02_FloatTurns.f (k : Nat) (a0 : Int) (a1 : Int) : Option (Bool) := (float_Add.f a0 a1).bind fun t362 => ((float_Add.f a1 a0).bind fun t363 => (if t362 = t363 then ((float_Mul.f a0 a1).bind fun t364 => ((float_Mul.f a1 a0).bind fun t365 => (if t364 = t365 then ((float_Min.f a0 a1).bind fun t366 => ((float_Min.f a1 a0).bind fun t367 => (if t366 = t367 then ((float_Max.f a0 a1).bind fun t368 => ((float_Max.f a1 a0).bind fun t369 => (if t368 = t369 then ((float_Equal.f a0 a1).bind fun t370 => ((float_Equal.f a1 a0).bind fun t371 => (lathelaw02_FloatTurns.j0 k a0 a1 (t370 != t371)))) else (lathelaw02_FloatTurns.j0 k a0 a1 true)))) else (lathelaw02_FloatTurns.j0 k a0 a1 true)))) else (lathelaw02_FloatTurns.j0 k a0 a1 true)))) else (lathelaw02_FloatTurns.j0 k a0 a1 true)))
theorem lathelaw02_FloatTurns.mono_l : ∀ k, (∀ y0 y1 y2, LeO (lathelaw02_FloatTurns.j0 k y0 y1 y2) (lathelaw02_FloatTurns.j0 (k + 1) y0 y1 y2)) ∧ (∀ y0 y1, LeO (lathelaw02_FloatTurns.j1 k y0 y1) (lathelaw02_FloatTurns.j1 (k + 1) y0 y1))
  | 0 => ⟨fun _ _ _ r h => by simp [lathelaw02_FloatTurns.j0] at h, fun _ _ r h => by simp [lathelaw02_FloatTurns.j1] at h⟩
  | k + 1 => by
    obtain ⟨ih0, ih1⟩ := lathelaw02_FloatTurns.mono_l k
    refine ⟨?_, ?_⟩
    · intro y0 y1 y2
      unfold lathelaw02_FloatTurns.j0
      repeat' first
      | (with_reducible exact ih0 _ _ _)
      | (with_reducible exact ih1 _ _)
      | (with_reducible exact LeO.refl _)
      | (with_reducible exact LeO.none _)
      | (with_reducible refine LeO.ite ?_ ?_)
      | (with_reducible refine LeO.bind ?_ (fun _ => ?_))
      | exact ih0 _ _ _
      | exact ih1 _ _
      | exact LeO.none _
      | refine LeO.ite ?_ ?_
      | refine LeO.bind ?_ (fun _ => ?_)
    · intro y0 y1
      unfold lathelaw02_FloatTurns.j1
      repeat' first
      | (with_reducible exact ih0 _ _ _)
      | (with_reducible exact ih1 _ _)
      | (with_reducible exact LeO.refl _)
      | (with_reducible exact LeO.none _)
      | (with_reducible refine LeO.ite ?_ ?_)
      | (with_reducible refine LeO.bind ?_ (fun _ => ?_))
      | exact ih0 _ _ _
      | exact ih1 _ _
      | exact LeO.none _
      | refine LeO.ite ?_ ?_
      | refine LeO.bind ?_ (fun _ => ?_)
theorem lathelaw02_FloatTurns.mono : ∀ a0 a1 k, LeO (lathelaw02_FloatTurns.f k a0 a1) (lathelaw02_FloatTurns.f (k + 1) a0 a1) := by
  intro a0 a1 k
  obtain ⟨ih0, ih1⟩ := lathelaw02_FloatTurns.mono_l k
  unfold lathelaw02_FloatTurns.f
  repeat' first
      | (with_reducible exact ih0 _ _ _)
      | (with_reducible exact ih1 _ _)
      | (with_reducible exact LeO.refl _)
      | (with_reducible exact LeO.none _)
      | (with_reducible refine LeO.ite ?_ ?_)
      | (with_reducible refine LeO.bind ?_ (fun _ => ?_))
      | exact ih0 _ _ _
      | exact ih1 _ _
      | exact LeO.none _
      | refine LeO.ite ?_ ?_
      | refine LeO.bind ?_ (fun _ => ?_)
set_option maxHeartbeats 8000000 in
set_option maxRecDepth 100000 in
theorem lathelaw02_FloatTurns.calls (k : Nat) (a0 : Int) (a1 : Int) (r : Bool) (w : World) (h : lathelaw02_FloatTurns.f k a0 a1 = some r) :
    Calls Try.prog 20 #[.int .u32 a0, .int .u32 a1] w fun e w' => e = .returned (.bool r) ∧ Drawn0 w w' := by
  have H : ((float_Add.f a0 a1).bind fun t362 => ((float_Add.f a1 a0).bind fun t363 => (if t362 = t363 then ((float_Mul.f a0 a1).bind fun t364 => ((float_Mul.f a1 a0).bind fun t365 => (if t364 = t365 then ((float_Min.f a0 a1).bind fun t366 => ((float_Min.f a1 a0).bind fun t367 => (if t366 = t367 then ((float_Max.f a0 a1).bind fun t368 => ((float_Max.f a1 a0).bind fun t369 => (if t368 = t369 then ((float_Equal.f a0 a1).bind fun t370 => ((float_Equal.f a1 a0).bind fun t371 => (lathelaw02_FloatTurns.j0 k a0 a1 (t370 != t371)))) else (lathelaw02_FloatTurns.j0 k a0 a1 true)))) else (lathelaw02_FloatTurns.j0 k a0 a1 true)))) else (lathelaw02_FloatTurns.j0 k a0 a1 true)))) else (lathelaw02_FloatTurns.j0 k a0 a1 true)))) = some r := h
  clear h
  have HC3 := Aside0.mk H
  clear H
  go_enter Try.func20, Try.ntmps20
  go_upto_region 1 with (fail)
  go_cut [47] (fun v47 wc => ∃ (kq : Nat) (x47_2 : Bool), v47 = .bool x47_2 ∧ Aside0 (lathelaw02_FloatTurns.j0 kq a0 a1 x47_2 = some r) ∧ Aside0 (kq ≤ k) ∧ Drawn0 w wc)
  case first =>
    have H := HC3.out
    clear HC3
    replace H := Option.bind_eq_some_iff.mp H
    obtain ⟨t362, A40, H⟩ := H
    replace H : ((float_Add.f a1 a0).bind fun t363 => (if t362 = t363 then ((float_Mul.f a0 a1).bind fun t364 => ((float_Mul.f a1 a0).bind fun t365 => (if t364 = t365 then ((float_Min.f a0 a1).bind fun t366 => ((float_Min.f a1 a0).bind fun t367 => (if t366 = t367 then ((float_Max.f a0 a1).bind fun t368 => ((float_Max.f a1 a0).bind fun t369 => (if t368 = t369 then ((float_Equal.f a0 a1).bind fun t370 => ((float_Equal.f a1 a0).bind fun t371 => (lathelaw02_FloatTurns.j0 k a0 a1 (t370 != t371)))) else (lathelaw02_FloatTurns.j0 k a0 a1 true)))) else (lathelaw02_FloatTurns.j0 k a0 a1 true)))) else (lathelaw02_FloatTurns.j0 k a0 a1 true)))) else (lathelaw02_FloatTurns.j0 k a0 a1 true))) = some r := H
    have A4 := Aside0.mk A40
    clear A40
    replace H := Option.bind_eq_some_iff.mp H
    obtain ⟨t363, A50, H⟩ := H
    replace H : (if t362 = t363 then ((float_Mul.f a0 a1).bind fun t364 => ((float_Mul.f a1 a0).bind fun t365 => (if t364 = t365 then ((float_Min.f a0 a1).bind fun t366 => ((float_Min.f a1 a0).bind fun t367 => (if t366 = t367 then ((float_Max.f a0 a1).bind fun t368 => ((float_Max.f a1 a0).bind fun t369 => (if t368 = t369 then ((float_Equal.f a0 a1).bind fun t370 => ((float_Equal.f a1 a0).bind fun t371 => (lathelaw02_FloatTurns.j0 k a0 a1 (t370 != t371)))) else (lathelaw02_FloatTurns.j0 k a0 a1 true)))) else (lathelaw02_FloatTurns.j0 k a0 a1 true)))) else (lathelaw02_FloatTurns.j0 k a0 a1 true)))) else (lathelaw02_FloatTurns.j0 k a0 a1 true)) = some r := H
    have A5 := Aside0.mk A50
    clear A50
    by_cases c6 : t362 = t363
    · rw [if_pos c6] at H
      have c6b0 : (t362 == t363) = true := beq_iff_eq.mpr c6
      have c6b1 : (t362 != t363) = false := bne_eq_false_iff_eq.mpr c6
      clear c6
      (first | rw [c6b0] | (simp only [i64_w, i32_w]; rw [c6b0]) | skip)
      replace H := Option.bind_eq_some_iff.mp H
      obtain ⟨t364, A70, H⟩ := H
      replace H : ((float_Mul.f a1 a0).bind fun t365 => (if t364 = t365 then ((float_Min.f a0 a1).bind fun t366 => ((float_Min.f a1 a0).bind fun t367 => (if t366 = t367 then ((float_Max.f a0 a1).bind fun t368 => ((float_Max.f a1 a0).bind fun t369 => (if t368 = t369 then ((float_Equal.f a0 a1).bind fun t370 => ((float_Equal.f a1 a0).bind fun t371 => (lathelaw02_FloatTurns.j0 k a0 a1 (t370 != t371)))) else (lathelaw02_FloatTurns.j0 k a0 a1 true)))) else (lathelaw02_FloatTurns.j0 k a0 a1 true)))) else (lathelaw02_FloatTurns.j0 k a0 a1 true))) = some r := H
      have A7 := Aside0.mk A70
      clear A70
      replace H := Option.bind_eq_some_iff.mp H
      obtain ⟨t365, A80, H⟩ := H
      replace H : (if t364 = t365 then ((float_Min.f a0 a1).bind fun t366 => ((float_Min.f a1 a0).bind fun t367 => (if t366 = t367 then ((float_Max.f a0 a1).bind fun t368 => ((float_Max.f a1 a0).bind fun t369 => (if t368 = t369 then ((float_Equal.f a0 a1).bind fun t370 => ((float_Equal.f a1 a0).bind fun t371 => (lathelaw02_FloatTurns.j0 k a0 a1 (t370 != t371)))) else (lathelaw02_FloatTurns.j0 k a0 a1 true)))) else (lathelaw02_FloatTurns.j0 k a0 a1 true)))) else (lathelaw02_FloatTurns.j0 k a0 a1 true)) = some r := H
      have A8 := Aside0.mk A80
      clear A80
      by_cases c9 : t364 = t365
      · rw [if_pos c9] at H
        have c9b0 : (t364 == t365) = true := beq_iff_eq.mpr c9
        have c9b1 : (t364 != t365) = false := bne_eq_false_iff_eq.mpr c9
        clear c9
        replace H := Option.bind_eq_some_iff.mp H
        obtain ⟨t366, A100, H⟩ := H
        replace H : ((float_Min.f a1 a0).bind fun t367 => (if t366 = t367 then ((float_Max.f a0 a1).bind fun t368 => ((float_Max.f a1 a0).bind fun t369 => (if t368 = t369 then ((float_Equal.f a0 a1).bind fun t370 => ((float_Equal.f a1 a0).bind fun t371 => (lathelaw02_FloatTurns.j0 k a0 a1 (t370 != t371)))) else (lathelaw02_FloatTurns.j0 k a0 a1 true)))) else (lathelaw02_FloatTurns.j0 k a0 a1 true))) = some r := H
        have A10 := Aside0.mk A100
        clear A100
        replace H := Option.bind_eq_some_iff.mp H
        obtain ⟨t367, A110, H⟩ := H
        replace H : (if t366 = t367 then ((float_Max.f a0 a1).bind fun t368 => ((float_Max.f a1 a0).bind fun t369 => (if t368 = t369 then ((float_Equal.f a0 a1).bind fun t370 => ((float_Equal.f a1 a0).bind fun t371 => (lathelaw02_FloatTurns.j0 k a0 a1 (t370 != t371)))) else (lathelaw02_FloatTurns.j0 k a0 a1 true)))) else (lathelaw02_FloatTurns.j0 k a0 a1 true)) = some r := H
        have A11 := Aside0.mk A110
        clear A110
        by_cases c12 : t366 = t367
        · rw [if_pos c12] at H
          have c12b0 : (t366 == t367) = true := beq_iff_eq.mpr c12
          have c12b1 : (t366 != t367) = false := bne_eq_false_iff_eq.mpr c12
          clear c12
          replace H := Option.bind_eq_some_iff.mp H
          obtain ⟨t368, A130, H⟩ := H
          replace H : ((float_Max.f a1 a0).bind fun t369 => (if t368 = t369 then ((float_Equal.f a0 a1).bind fun t370 => ((float_Equal.f a1 a0).bind fun t371 => (lathelaw02_FloatTurns.j0 k a0 a1 (t370 != t371)))) else (lathelaw02_FloatTurns.j0 k a0 a1 true))) = some r := H
          have A13 := Aside0.mk A130
          clear A130
          replace H := Option.bind_eq_some_iff.mp H
          obtain ⟨t369, A140, H⟩ := H
          replace H : (if t368 = t369 then ((float_Equal.f a0 a1).bind fun t370 => ((float_Equal.f a1 a0).bind fun t371 => (lathelaw02_FloatTurns.j0 k a0 a1 (t370 != t371)))) else (lathelaw02_FloatTurns.j0 k a0 a1 true)) = some r := H
          have A14 := Aside0.mk A140
          clear A140
          by_cases c15 : t368 = t369
          · rw [if_pos c15] at H
            have c15b0 : (t368 == t369) = true := beq_iff_eq.mpr c15
            have c15b1 : (t368 != t369) = false := bne_eq_false_iff_eq.mpr c15
            clear c15
            replace H := Option.bind_eq_some_iff.mp H
            obtain ⟨t370, A160, H⟩ := H
            replace H : ((float_Equal.f a1 a0).bind fun t371 => (lathelaw02_FloatTurns.j0 k a0 a1 (t370 != t371))) = some r := H
            have A16 := Aside0.mk A160
            clear A160
            replace H := Option.bind_eq_some_iff.mp H
            obtain ⟨t371, A170, H⟩ := H
            replace H : (lathelaw02_FloatTurns.j0 k a0 a1 (t370 != t371)) = some r := H
            have A17 := Aside0.mk A170
            clear A170
            have H' := Aside0.mk H
            clear H
            go_wp2_with (first | ((with_reducible refine gate_callee (f := 53) rfl ?_); refine goesL_ (some 7) rfl rfl Try.func53 (by kernel_rfl) rfl #[.int .u32 a0, .int .u32 a1] rfl (by (try simp only [List.map_toArray, List.map_cons, List.map_nil]); first | done | rfl | (simp only [List.length_drop, List.length_take]; rfl)) ?_; (with_reducible refine (float_Add.calls a0 a1 t362 _ A4.out).mono ?_); rintro e w' ⟨rfl, ⟨nd, rfl⟩⟩; refine ⟨_, rfl, ?_⟩) | ((with_reducible refine gate_callee (f := 53) rfl ?_); refine goesL_ (some 10) rfl rfl Try.func53 (by kernel_rfl) rfl #[.int .u32 a1, .int .u32 a0] rfl (by (try simp only [List.map_toArray, List.map_cons, List.map_nil]); first | done | rfl | (simp only [List.length_drop, List.length_take]; rfl)) ?_; (with_reducible refine (float_Add.calls a1 a0 t363 _ A5.out).mono ?_); rintro e w' ⟨rfl, ⟨nd, rfl⟩⟩; refine ⟨_, rfl, ?_⟩) | (go_at_call 48; (with_reducible refine (float_Mul.calls a0 a1 t364 _ A7.out).mono ?_); clear A7; rintro e w' ⟨rfl, ⟨nd, rfl⟩⟩) | (go_at_call 48; (with_reducible refine (float_Mul.calls a1 a0 t365 _ A8.out).mono ?_); clear A8; rintro e w' ⟨rfl, ⟨nd, rfl⟩⟩) | (go_at_call 72; (with_reducible refine (float_Min.calls a0 a1 t366 _ A10.out).mono ?_); clear A10; rintro e w' ⟨rfl, ⟨nd, rfl⟩⟩) | (go_at_call 72; (with_reducible refine (float_Min.calls a1 a0 t367 _ A11.out).mono ?_); clear A11; rintro e w' ⟨rfl, ⟨nd, rfl⟩⟩) | (go_at_call 73; (with_reducible refine (float_Max.calls a0 a1 t368 _ A13.out).mono ?_); clear A13; rintro e w' ⟨rfl, ⟨nd, rfl⟩⟩) | (go_at_call 73; (with_reducible refine (float_Max.calls a1 a0 t369 _ A14.out).mono ?_); clear A14; rintro e w' ⟨rfl, ⟨nd, rfl⟩⟩) | (go_at_call 74; (with_reducible refine (float_Equal.calls a0 a1 t370 _ A16.out).mono ?_); clear A16; rintro e w' ⟨rfl, ⟨nd, rfl⟩⟩) | (go_at_call 74; (with_reducible refine (float_Equal.calls a1 a0 t371 _ A17.out).mono ?_); clear A17; rintro e w' ⟨rfl, ⟨nd, rfl⟩⟩))
            go_meet
            case rel => exact ⟨_, ((t370 != t371)), (by first | rfl | (simp; done) | (simp [*]; done)), H', ⟨by first | omega | exact Nat.le_refl _⟩, by repeat (first | exact Drawn0.refl _ | apply Drawn0.step)⟩
          · rw [if_neg c15] at H
            have c15b0 : (t368 == t369) = false := beq_eq_false_iff_ne.mpr c15
            have c15b1 : (t368 != t369) = true := bne_iff_ne.mpr c15
            have H' := Aside0.mk H
            clear H
            go_wp2_with (first | ((with_reducible refine gate_callee (f := 53) rfl ?_); refine goesL_ (some 7) rfl rfl Try.func53 (by kernel_rfl) rfl #[.int .u32 a0, .int .u32 a1] rfl (by (try simp only [List.map_toArray, List.map_cons, List.map_nil]); first | done | rfl | (simp only [List.length_drop, List.length_take]; rfl)) ?_; (with_reducible refine (float_Add.calls a0 a1 t362 _ A4.out).mono ?_); rintro e w' ⟨rfl, ⟨nd, rfl⟩⟩; refine ⟨_, rfl, ?_⟩) | ((with_reducible refine gate_callee (f := 53) rfl ?_); refine goesL_ (some 10) rfl rfl Try.func53 (by kernel_rfl) rfl #[.int .u32 a1, .int .u32 a0] rfl (by (try simp only [List.map_toArray, List.map_cons, List.map_nil]); first | done | rfl | (simp only [List.length_drop, List.length_take]; rfl)) ?_; (with_reducible refine (float_Add.calls a1 a0 t363 _ A5.out).mono ?_); rintro e w' ⟨rfl, ⟨nd, rfl⟩⟩; refine ⟨_, rfl, ?_⟩) | (go_at_call 48; (with_reducible refine (float_Mul.calls a0 a1 t364 _ A7.out).mono ?_); clear A7; rintro e w' ⟨rfl, ⟨nd, rfl⟩⟩) | (go_at_call 48; (with_reducible refine (float_Mul.calls a1 a0 t365 _ A8.out).mono ?_); clear A8; rintro e w' ⟨rfl, ⟨nd, rfl⟩⟩) | (go_at_call 72; (with_reducible refine (float_Min.calls a0 a1 t366 _ A10.out).mono ?_); clear A10; rintro e w' ⟨rfl, ⟨nd, rfl⟩⟩) | (go_at_call 72; (with_reducible refine (float_Min.calls a1 a0 t367 _ A11.out).mono ?_); clear A11; rintro e w' ⟨rfl, ⟨nd, rfl⟩⟩) | (go_at_call 73; (with_reducible refine (float_Max.calls a0 a1 t368 _ A13.out).mono ?_); clear A13; rintro e w' ⟨rfl, ⟨nd, rfl⟩⟩) | (go_at_call 73; (with_reducible refine (float_Max.calls a1 a0 t369 _ A14.out).mono ?_); clear A14; rintro e w' ⟨rfl, ⟨nd, rfl⟩⟩))
            go_meet
            case rel => exact ⟨_, (true), (by first | rfl | (simp; done) | (simp [*]; done)), H', ⟨by first | omega | exact Nat.le_refl _⟩, by repeat (first | exact Drawn0.refl _ | apply Drawn0.step)⟩
        · rw [if_neg c12] at H
          have c12b0 : (t366 == t367) = false := beq_eq_false_iff_ne.mpr c12
          have c12b1 : (t366 != t367) = true := bne_iff_ne.mpr c12
          have H' := Aside0.mk H
          clear H
          go_wp2_with (first | ((with_reducible refine gate_callee (f := 53) rfl ?_); refine goesL_ (some 7) rfl rfl Try.func53 (by kernel_rfl) rfl #[.int .u32 a0, .int .u32 a1] rfl (by (try simp only [List.map_toArray, List.map_cons, List.map_nil]); first | done | rfl | (simp only [List.length_drop, List.length_take]; rfl)) ?_; (with_reducible refine (float_Add.calls a0 a1 t362 _ A4.out).mono ?_); rintro e w' ⟨rfl, ⟨nd, rfl⟩⟩; refine ⟨_, rfl, ?_⟩) | ((with_reducible refine gate_callee (f := 53) rfl ?_); refine goesL_ (some 10) rfl rfl Try.func53 (by kernel_rfl) rfl #[.int .u32 a1, .int .u32 a0] rfl (by (try simp only [List.map_toArray, List.map_cons, List.map_nil]); first | done | rfl | (simp only [List.length_drop, List.length_take]; rfl)) ?_; (with_reducible refine (float_Add.calls a1 a0 t363 _ A5.out).mono ?_); rintro e w' ⟨rfl, ⟨nd, rfl⟩⟩; refine ⟨_, rfl, ?_⟩) | (go_at_call 48; (with_reducible refine (float_Mul.calls a0 a1 t364 _ A7.out).mono ?_); clear A7; rintro e w' ⟨rfl, ⟨nd, rfl⟩⟩) | (go_at_call 48; (with_reducible refine (float_Mul.calls a1 a0 t365 _ A8.out).mono ?_); clear A8; rintro e w' ⟨rfl, ⟨nd, rfl⟩⟩) | (go_at_call 72; (with_reducible refine (float_Min.calls a0 a1 t366 _ A10.out).mono ?_); clear A10; rintro e w' ⟨rfl, ⟨nd, rfl⟩⟩) | (go_at_call 72; (with_reducible refine (float_Min.calls a1 a0 t367 _ A11.out).mono ?_); clear A11; rintro e w' ⟨rfl, ⟨nd, rfl⟩⟩))
          go_meet
          case rel => exact ⟨_, (true), (by first | rfl | (simp; done) | (simp [*]; done)), H', ⟨by first | omega | exact Nat.le_refl _⟩, by repeat (first | exact Drawn0.refl _ | apply Drawn0.step)⟩
      · rw [if_neg c9] at H
        have c9b0 : (t364 == t365) = false := beq_eq_false_iff_ne.mpr c9
        have c9b1 : (t364 != t365) = true := bne_iff_ne.mpr c9
        have H' := Aside0.mk H
        clear H
        go_wp2_with (first | ((with_reducible refine gate_callee (f := 53) rfl ?_); refine goesL_ (some 7) rfl rfl Try.func53 (by kernel_rfl) rfl #[.int .u32 a0, .int .u32 a1] rfl (by (try simp only [List.map_toArray, List.map_cons, List.map_nil]); first | done | rfl | (simp only [List.length_drop, List.length_take]; rfl)) ?_; (with_reducible refine (float_Add.calls a0 a1 t362 _ A4.out).mono ?_); rintro e w' ⟨rfl, ⟨nd, rfl⟩⟩; refine ⟨_, rfl, ?_⟩) | ((with_reducible refine gate_callee (f := 53) rfl ?_); refine goesL_ (some 10) rfl rfl Try.func53 (by kernel_rfl) rfl #[.int .u32 a1, .int .u32 a0] rfl (by (try simp only [List.map_toArray, List.map_cons, List.map_nil]); first | done | rfl | (simp only [List.length_drop, List.length_take]; rfl)) ?_; (with_reducible refine (float_Add.calls a1 a0 t363 _ A5.out).mono ?_); rintro e w' ⟨rfl, ⟨nd, rfl⟩⟩; refine ⟨_, rfl, ?_⟩) | (go_at_call 48; (with_reducible refine (float_Mul.calls a0 a1 t364 _ A7.out).mono ?_); clear A7; rintro e w' ⟨rfl, ⟨nd, rfl⟩⟩) | (go_at_call 48; (with_reducible refine (float_Mul.calls a1 a0 t365 _ A8.out).mono ?_); clear A8; rintro e w' ⟨rfl, ⟨nd, rfl⟩⟩))
        go_meet
        case rel => exact ⟨_, (true), (by first | rfl | (simp; done) | (simp [*]; done)), H', ⟨by first | omega | exact Nat.le_refl _⟩, by repeat (first | exact Drawn0.refl _ | apply Drawn0.step)⟩
    · rw [if_neg c6] at H
      have c6b0 : (t362 == t363) = false := beq_eq_false_iff_ne.mpr c6
      have c6b1 : (t362 != t363) = true := bne_iff_ne.mpr c6
      (first | rw [c6b0] | (simp only [i64_w, i32_w]; rw [c6b0]) | skip)
      have H' := Aside0.mk H
      clear H
      go_wp2_with (first | ((with_reducible refine gate_callee (f := 53) rfl ?_); refine goesL_ (some 7) rfl rfl Try.func53 (by kernel_rfl) rfl #[.int .u32 a0, .int .u32 a1] rfl (by (try simp only [List.map_toArray, List.map_cons, List.map_nil]); first | done | rfl | (simp only [List.length_drop, List.length_take]; rfl)) ?_; (with_reducible refine (float_Add.calls a0 a1 t362 _ A4.out).mono ?_); rintro e w' ⟨rfl, ⟨nd, rfl⟩⟩; refine ⟨_, rfl, ?_⟩) | ((with_reducible refine gate_callee (f := 53) rfl ?_); refine goesL_ (some 10) rfl rfl Try.func53 (by kernel_rfl) rfl #[.int .u32 a1, .int .u32 a0] rfl (by (try simp only [List.map_toArray, List.map_cons, List.map_nil]); first | done | rfl | (simp only [List.length_drop, List.length_take]; rfl)) ?_; (with_reducible refine (float_Add.calls a1 a0 t363 _ A5.out).mono ?_); rintro e w' ⟨rfl, ⟨nd, rfl⟩⟩; refine ⟨_, rfl, ?_⟩))
      go_meet
      case rel => exact ⟨_, (true), (by first | rfl | (simp; done) | (simp [*]; done)), H', ⟨by first | omega | exact Nat.le_refl _⟩, by repeat (first | exact Drawn0.refl _ | apply Drawn0.step)⟩
  case rest =>
    clear HC3
    try clear c1
    try clear c2
    try clear p2
    try clear c5
    try clear c6
    try clear c6b0
    try clear c6b1
    try clear c9
    try clear c9b0
    try clear c9b1
    try clear c12
    try clear c12b0
    try clear c12b1
    try clear c15
    try clear c15b0
    try clear c15b1
    obtain ⟨kq, x47_2, rfl, HA, HJ2, ⟨mc2, rfl⟩⟩ := hcut
    cases kq with
    | zero => exact absurd HA.out (by simp [lathelaw02_FloatTurns.j0])
    | succ kj2 =>
      have H := HA.out
      clear HA
      simp only [lathelaw02_FloatTurns.j0] at H
      by_cases c18 : x47_2 = true
      · subst c18
        have H1 : (some false) = some r := by rw [if_pos rfl] at H; exact H
        clear H
        have H := H1
        clear H1
        obtain rfl := Option.some.inj H
        go_wp2
        go_ret
        exact ⟨by first | rfl | (simp; done) | (simp [*]; done), by repeat (first | exact Drawn0.refl _ | apply Drawn0.step)⟩
      · replace c18 := Bool.eq_false_iff.mpr c18
        subst c18
        have H1 : ((float_Neg.f a0).bind fun t372 => ((float_Mul.f t372 a1).bind fun t373 => ((float_Mul.f a0 a1).bind fun t374 => ((float_Neg.f t374).bind fun t375 => (if t373 = t375 then ((float_Neg.f a0).bind fun t376 => ((float_Div.f t376 a1).bind fun t377 => ((float_Div.f a0 a1).bind fun t378 => ((float_Neg.f t378).bind fun t379 => (lathelaw02_FloatTurns.j1 kj2 a0 (t377 != t379)))))) else (lathelaw02_FloatTurns.j1 kj2 a0 true)))))) = some r := by rw [if_neg (show ¬ (false = true) by decide)] at H; exact H
        clear H
        have H := H1
        clear H1
        have HC19 := Aside0.mk H
        clear H
        go_upto_region 3 with (fail)
        go_cut [67] (fun v67 wc => ∃ (kq : Nat) (x67_18 : Bool), v67 = .bool x67_18 ∧ Aside0 (lathelaw02_FloatTurns.j1 kq a0 x67_18 = some r) ∧ Aside0 (kq ≤ kj2) ∧ Drawn0 w wc)
        case first =>
          have H := HC19.out
          clear HC19
          replace H := Option.bind_eq_some_iff.mp H
          obtain ⟨t372, A200, H⟩ := H
          replace H : ((float_Mul.f t372 a1).bind fun t373 => ((float_Mul.f a0 a1).bind fun t374 => ((float_Neg.f t374).bind fun t375 => (if t373 = t375 then ((float_Neg.f a0).bind fun t376 => ((float_Div.f t376 a1).bind fun t377 => ((float_Div.f a0 a1).bind fun t378 => ((float_Neg.f t378).bind fun t379 => (lathelaw02_FloatTurns.j1 kj2 a0 (t377 != t379)))))) else (lathelaw02_FloatTurns.j1 kj2 a0 true))))) = some r := H
          have A20 := Aside0.mk A200
          clear A200
          replace H := Option.bind_eq_some_iff.mp H
          obtain ⟨t373, A210, H⟩ := H
          replace H : ((float_Mul.f a0 a1).bind fun t374 => ((float_Neg.f t374).bind fun t375 => (if t373 = t375 then ((float_Neg.f a0).bind fun t376 => ((float_Div.f t376 a1).bind fun t377 => ((float_Div.f a0 a1).bind fun t378 => ((float_Neg.f t378).bind fun t379 => (lathelaw02_FloatTurns.j1 kj2 a0 (t377 != t379)))))) else (lathelaw02_FloatTurns.j1 kj2 a0 true)))) = some r := H
          have A21 := Aside0.mk A210
          clear A210
          replace H := Option.bind_eq_some_iff.mp H
          obtain ⟨t374, A220, H⟩ := H
          replace H : ((float_Neg.f t374).bind fun t375 => (if t373 = t375 then ((float_Neg.f a0).bind fun t376 => ((float_Div.f t376 a1).bind fun t377 => ((float_Div.f a0 a1).bind fun t378 => ((float_Neg.f t378).bind fun t379 => (lathelaw02_FloatTurns.j1 kj2 a0 (t377 != t379)))))) else (lathelaw02_FloatTurns.j1 kj2 a0 true))) = some r := H
          have A22 := Aside0.mk A220
          clear A220
          replace H := Option.bind_eq_some_iff.mp H
          obtain ⟨t375, A230, H⟩ := H
          replace H : (if t373 = t375 then ((float_Neg.f a0).bind fun t376 => ((float_Div.f t376 a1).bind fun t377 => ((float_Div.f a0 a1).bind fun t378 => ((float_Neg.f t378).bind fun t379 => (lathelaw02_FloatTurns.j1 kj2 a0 (t377 != t379)))))) else (lathelaw02_FloatTurns.j1 kj2 a0 true)) = some r := H
          have A23 := Aside0.mk A230
          clear A230
          by_cases c24 : t373 = t375
          · rw [if_pos c24] at H
            have c24b0 : (t373 == t375) = true := beq_iff_eq.mpr c24
            have c24b1 : (t373 != t375) = false := bne_eq_false_iff_eq.mpr c24
            clear c24
            (first | rw [c24b0] | (simp only [i64_w, i32_w]; rw [c24b0]) | skip)
            replace H := Option.bind_eq_some_iff.mp H
            obtain ⟨t376, A250, H⟩ := H
            replace H : ((float_Div.f t376 a1).bind fun t377 => ((float_Div.f a0 a1).bind fun t378 => ((float_Neg.f t378).bind fun t379 => (lathelaw02_FloatTurns.j1 kj2 a0 (t377 != t379))))) = some r := H
            have A25 := Aside0.mk A250
            clear A250
            replace H := Option.bind_eq_some_iff.mp H
            obtain ⟨t377, A260, H⟩ := H
            replace H : ((float_Div.f a0 a1).bind fun t378 => ((float_Neg.f t378).bind fun t379 => (lathelaw02_FloatTurns.j1 kj2 a0 (t377 != t379)))) = some r := H
            have A26 := Aside0.mk A260
            clear A260
            replace H := Option.bind_eq_some_iff.mp H
            obtain ⟨t378, A270, H⟩ := H
            replace H : ((float_Neg.f t378).bind fun t379 => (lathelaw02_FloatTurns.j1 kj2 a0 (t377 != t379))) = some r := H
            have A27 := Aside0.mk A270
            clear A270
            replace H := Option.bind_eq_some_iff.mp H
            obtain ⟨t379, A280, H⟩ := H
            replace H : (lathelaw02_FloatTurns.j1 kj2 a0 (t377 != t379)) = some r := H
            have A28 := Aside0.mk A280
            clear A280
            have H' := Aside0.mk H
            clear H
            go_wp2_with (first | ((with_reducible refine gate_callee (f := 62) rfl ?_); refine goesL_ (some 49) rfl rfl Try.func62 (by kernel_rfl) rfl #[.int .u32 a0] rfl (by (try simp only [List.map_toArray, List.map_cons, List.map_nil]); first | done | rfl | (simp only [List.length_drop, List.length_take]; rfl)) ?_; (with_reducible refine (float_Neg.calls a0 t372 _ A20.out).mono ?_); rintro e w' ⟨rfl, ⟨nd, rfl⟩⟩; refine ⟨_, rfl, ?_⟩) | ((with_reducible refine gate_callee (f := 48) rfl ?_); refine goesL_ (some 51) rfl rfl Try.func48 (by kernel_rfl) rfl #[.int .u32 t372, .int .u32 a1] rfl (by (try simp only [List.map_toArray, List.map_cons, List.map_nil]); first | done | rfl | (simp only [List.length_drop, List.length_take]; rfl)) ?_; (with_reducible refine (float_Mul.calls t372 a1 t373 _ A21.out).mono ?_); rintro e w' ⟨rfl, ⟨nd, rfl⟩⟩; refine ⟨_, rfl, ?_⟩) | ((with_reducible refine gate_callee (f := 48) rfl ?_); refine goesL_ (some 54) rfl rfl Try.func48 (by kernel_rfl) rfl #[.int .u32 a0, .int .u32 a1] rfl (by (try simp only [List.map_toArray, List.map_cons, List.map_nil]); first | done | rfl | (simp only [List.length_drop, List.length_take]; rfl)) ?_; (with_reducible refine (float_Mul.calls a0 a1 t374 _ A22.out).mono ?_); rintro e w' ⟨rfl, ⟨nd, rfl⟩⟩; refine ⟨_, rfl, ?_⟩) | ((with_reducible refine gate_callee (f := 62) rfl ?_); refine goesL_ (some 55) rfl rfl Try.func62 (by kernel_rfl) rfl #[.int .u32 t374] rfl (by (try simp only [List.map_toArray, List.map_cons, List.map_nil]); first | done | rfl | (simp only [List.length_drop, List.length_take]; rfl)) ?_; (with_reducible refine (float_Neg.calls t374 t375 _ A23.out).mono ?_); rintro e w' ⟨rfl, ⟨nd, rfl⟩⟩; refine ⟨_, rfl, ?_⟩) | (go_at_call 62; (with_reducible refine (float_Neg.calls a0 t376 _ A25.out).mono ?_); clear A25; rintro e w' ⟨rfl, ⟨nd, rfl⟩⟩) | (go_at_call 51; (with_reducible refine (float_Div.calls t376 a1 t377 _ A26.out).mono ?_); clear A26; rintro e w' ⟨rfl, ⟨nd, rfl⟩⟩) | (go_at_call 51; (with_reducible refine (float_Div.calls a0 a1 t378 _ A27.out).mono ?_); clear A27; rintro e w' ⟨rfl, ⟨nd, rfl⟩⟩) | (go_at_call 62; (with_reducible refine (float_Neg.calls t378 t379 _ A28.out).mono ?_); clear A28; rintro e w' ⟨rfl, ⟨nd, rfl⟩⟩))
            go_meet
            case rel => exact ⟨_, ((t377 != t379)), (by first | rfl | (simp; done) | (simp [*]; done)), H', ⟨by have := HJ2.out; first | omega | exact Nat.le_refl _⟩, by repeat (first | exact Drawn0.refl _ | apply Drawn0.step)⟩
          · rw [if_neg c24] at H
            have c24b0 : (t373 == t375) = false := beq_eq_false_iff_ne.mpr c24
            have c24b1 : (t373 != t375) = true := bne_iff_ne.mpr c24
            (first | rw [c24b0] | (simp only [i64_w, i32_w]; rw [c24b0]) | skip)
            have H' := Aside0.mk H
            clear H
            go_wp2_with (first | ((with_reducible refine gate_callee (f := 62) rfl ?_); refine goesL_ (some 49) rfl rfl Try.func62 (by kernel_rfl) rfl #[.int .u32 a0] rfl (by (try simp only [List.map_toArray, List.map_cons, List.map_nil]); first | done | rfl | (simp only [List.length_drop, List.length_take]; rfl)) ?_; (with_reducible refine (float_Neg.calls a0 t372 _ A20.out).mono ?_); rintro e w' ⟨rfl, ⟨nd, rfl⟩⟩; refine ⟨_, rfl, ?_⟩) | ((with_reducible refine gate_callee (f := 48) rfl ?_); refine goesL_ (some 51) rfl rfl Try.func48 (by kernel_rfl) rfl #[.int .u32 t372, .int .u32 a1] rfl (by (try simp only [List.map_toArray, List.map_cons, List.map_nil]); first | done | rfl | (simp only [List.length_drop, List.length_take]; rfl)) ?_; (with_reducible refine (float_Mul.calls t372 a1 t373 _ A21.out).mono ?_); rintro e w' ⟨rfl, ⟨nd, rfl⟩⟩; refine ⟨_, rfl, ?_⟩) | ((with_reducible refine gate_callee (f := 48) rfl ?_); refine goesL_ (some 54) rfl rfl Try.func48 (by kernel_rfl) rfl #[.int .u32 a0, .int .u32 a1] rfl (by (try simp only [List.map_toArray, List.map_cons, List.map_nil]); first | done | rfl | (simp only [List.length_drop, List.length_take]; rfl)) ?_; (with_reducible refine (float_Mul.calls a0 a1 t374 _ A22.out).mono ?_); rintro e w' ⟨rfl, ⟨nd, rfl⟩⟩; refine ⟨_, rfl, ?_⟩) | ((with_reducible refine gate_callee (f := 62) rfl ?_); refine goesL_ (some 55) rfl rfl Try.func62 (by kernel_rfl) rfl #[.int .u32 t374] rfl (by (try simp only [List.map_toArray, List.map_cons, List.map_nil]); first | done | rfl | (simp only [List.length_drop, List.length_take]; rfl)) ?_; (with_reducible refine (float_Neg.calls t374 t375 _ A23.out).mono ?_); rintro e w' ⟨rfl, ⟨nd, rfl⟩⟩; refine ⟨_, rfl, ?_⟩))
            go_meet
            case rel => exact ⟨_, (true), (by first | rfl | (simp; done) | (simp [*]; done)), H', ⟨by have := HJ2.out; first | omega | exact Nat.le_refl _⟩, by repeat (first | exact Drawn0.refl _ | apply Drawn0.step)⟩
        case rest =>
          clear HC19
          try clear c1
          try clear c2
          try clear p2
          try clear c4
          try clear c5
          try clear c6
          try clear c6b0
          try clear c6b1
          try clear c9
          try clear c9b0
          try clear c9b1
          try clear c12
          try clear c12b0
          try clear c12b1
          try clear c15
          try clear c15b0
          try clear c15b1
          try clear c18
          try clear c20
          try clear c24
          try clear c24b0
          try clear c24b1
          try clear p2
          obtain ⟨kq, x67_18, rfl, HA, HJ18, ⟨mc18, rfl⟩⟩ := hcut
          cases kq with
          | zero => exact absurd HA.out (by simp [lathelaw02_FloatTurns.j1])
          | succ kj18 =>
            have H := HA.out
            clear HA
            simp only [lathelaw02_FloatTurns.j1] at H
            by_cases c29 : x67_18 = true
            · subst c29
              have H1 : (some false) = some r := by rw [if_pos rfl] at H; exact H
              clear H
              have H := H1
              clear H1
              obtain rfl := Option.some.inj H
              go_wp2
              go_ret
              exact ⟨by first | rfl | (simp; done) | (simp [*]; done), by repeat (first | exact Drawn0.refl _ | apply Drawn0.step)⟩
            · replace c29 := Bool.eq_false_iff.mpr c29
              subst c29
              have H1 : ((float_Finite.f a0).bind fun t380 => (if t380 = true then ((float_Sub.f a0 a0).bind fun t381 => (if t381 = 0 then ((float_Neg.f a0).bind fun t382 => ((float_Neg.f t382).bind fun t383 => (if t383 = a0 then ((lathelaw02_works.f).bind fun t384 => (some t384)) else (some false)))) else (some false))) else ((lathelaw02_works.f).bind fun t385 => (some t385)))) = some r := by rw [if_neg (show ¬ (false = true) by decide)] at H; exact H
              clear H
              have H := H1
              clear H1
              replace H := Option.bind_eq_some_iff.mp H
              obtain ⟨t380, A300, H⟩ := H
              replace H : (if t380 = true then ((float_Sub.f a0 a0).bind fun t381 => (if t381 = 0 then ((float_Neg.f a0).bind fun t382 => ((float_Neg.f t382).bind fun t383 => (if t383 = a0 then ((lathelaw02_works.f).bind fun t384 => (some t384)) else (some false)))) else (some false))) else ((lathelaw02_works.f).bind fun t385 => (some t385))) = some r := H
              have A30 := Aside0.mk A300
              clear A300
              by_cases c31 : t380 = true
              · subst c31
                have H1 : ((float_Sub.f a0 a0).bind fun t381 => (if t381 = 0 then ((float_Neg.f a0).bind fun t382 => ((float_Neg.f t382).bind fun t383 => (if t383 = a0 then ((lathelaw02_works.f).bind fun t384 => (some t384)) else (some false)))) else (some false))) = some r := by rw [if_pos rfl] at H; exact H
                clear H
                have H := H1
                clear H1
                replace H := Option.bind_eq_some_iff.mp H
                obtain ⟨t381, A320, H⟩ := H
                replace H : (if t381 = 0 then ((float_Neg.f a0).bind fun t382 => ((float_Neg.f t382).bind fun t383 => (if t383 = a0 then ((lathelaw02_works.f).bind fun t384 => (some t384)) else (some false)))) else (some false)) = some r := H
                have A32 := Aside0.mk A320
                clear A320
                by_cases c33 : t381 = 0
                · rw [if_pos c33] at H
                  have c33b0 : (t381 == 0) = true := beq_iff_eq.mpr c33
                  have c33b1 : (t381 != 0) = false := bne_eq_false_iff_eq.mpr c33
                  clear c33
                  replace H := Option.bind_eq_some_iff.mp H
                  obtain ⟨t382, A340, H⟩ := H
                  replace H : ((float_Neg.f t382).bind fun t383 => (if t383 = a0 then ((lathelaw02_works.f).bind fun t384 => (some t384)) else (some false))) = some r := H
                  have A34 := Aside0.mk A340
                  clear A340
                  replace H := Option.bind_eq_some_iff.mp H
                  obtain ⟨t383, A350, H⟩ := H
                  replace H : (if t383 = a0 then ((lathelaw02_works.f).bind fun t384 => (some t384)) else (some false)) = some r := H
                  have A35 := Aside0.mk A350
                  clear A350
                  by_cases c36 : t383 = a0
                  · rw [if_pos c36] at H
                    have c36b0 : (t383 == a0) = true := beq_iff_eq.mpr c36
                    have c36b1 : (t383 != a0) = false := bne_eq_false_iff_eq.mpr c36
                    clear c36
                    replace H := Option.bind_eq_some_iff.mp H
                    obtain ⟨t384, A370, H⟩ := H
                    replace H : (some t384) = some r := H
                    have A37 := Aside0.mk A370
                    clear A370
                    obtain rfl := Option.some.inj H
                    go_wp2_with (first | ((with_reducible refine gate_callee (f := 58) rfl ?_); refine goesL_ (some 69) rfl rfl Try.func58 (by kernel_rfl) rfl #[.int .u32 a0] rfl (by (try simp only [List.map_toArray, List.map_cons, List.map_nil]); first | done | rfl | (simp only [List.length_drop, List.length_take]; rfl)) ?_; (with_reducible refine (float_Finite.calls a0 true _ A30.out).mono ?_); rintro e w' ⟨rfl, ⟨nd, rfl⟩⟩; refine ⟨_, rfl, ?_⟩) | (go_at_call 55; (with_reducible refine (float_Sub.calls a0 a0 t381 _ A32.out).mono ?_); clear A32; rintro e w' ⟨rfl, ⟨nd, rfl⟩⟩) | (go_at_call 62; (with_reducible refine (float_Neg.calls a0 t382 _ A34.out).mono ?_); clear A34; rintro e w' ⟨rfl, ⟨nd, rfl⟩⟩) | (go_at_call 62; (with_reducible refine (float_Neg.calls t382 t383 _ A35.out).mono ?_); clear A35; rintro e w' ⟨rfl, ⟨nd, rfl⟩⟩) | ((with_reducible refine gate_callee (f := 50) rfl ?_); refine goesL_ (some 83) rfl rfl Try.func50 (by kernel_rfl) rfl #[] rfl (by (try simp only [List.map_toArray, List.map_cons, List.map_nil]); first | done | rfl | (simp only [List.length_drop, List.length_take]; rfl)) ?_; (with_reducible refine (lathelaw02_works.calls  t384 _ A37.out).mono ?_); rintro e w' ⟨rfl, ⟨nd, rfl⟩⟩; refine ⟨_, rfl, ?_⟩))
                    go_ret
                    exact ⟨by first | rfl | (simp; done) | (simp [*]; done), by repeat (first | exact Drawn0.refl _ | apply Drawn0.step)⟩
                  · rw [if_neg c36] at H
                    have c36b0 : (t383 == a0) = false := beq_eq_false_iff_ne.mpr c36
                    have c36b1 : (t383 != a0) = true := bne_iff_ne.mpr c36
                    obtain rfl := Option.some.inj H
                    go_wp2_with (first | ((with_reducible refine gate_callee (f := 58) rfl ?_); refine goesL_ (some 69) rfl rfl Try.func58 (by kernel_rfl) rfl #[.int .u32 a0] rfl (by (try simp only [List.map_toArray, List.map_cons, List.map_nil]); first | done | rfl | (simp only [List.length_drop, List.length_take]; rfl)) ?_; (with_reducible refine (float_Finite.calls a0 true _ A30.out).mono ?_); rintro e w' ⟨rfl, ⟨nd, rfl⟩⟩; refine ⟨_, rfl, ?_⟩) | (go_at_call 55; (with_reducible refine (float_Sub.calls a0 a0 t381 _ A32.out).mono ?_); clear A32; rintro e w' ⟨rfl, ⟨nd, rfl⟩⟩) | (go_at_call 62; (with_reducible refine (float_Neg.calls a0 t382 _ A34.out).mono ?_); clear A34; rintro e w' ⟨rfl, ⟨nd, rfl⟩⟩) | (go_at_call 62; (with_reducible refine (float_Neg.calls t382 t383 _ A35.out).mono ?_); clear A35; rintro e w' ⟨rfl, ⟨nd, rfl⟩⟩))
                    go_ret
                    exact ⟨by first | rfl | (simp; done) | (simp [*]; done), by repeat (first | exact Drawn0.refl _ | apply Drawn0.step)⟩
                · rw [if_neg c33] at H
                  have c33b0 : (t381 == 0) = false := beq_eq_false_iff_ne.mpr c33
                  have c33b1 : (t381 != 0) = true := bne_iff_ne.mpr c33
                  obtain rfl := Option.some.inj H
                  go_wp2_with (first | ((with_reducible refine gate_callee (f := 58) rfl ?_); refine goesL_ (some 69) rfl rfl Try.func58 (by kernel_rfl) rfl #[.int .u32 a0] rfl (by (try simp only [List.map_toArray, List.map_cons, List.map_nil]); first | done | rfl | (simp only [List.length_drop, List.length_take]; rfl)) ?_; (with_reducible refine (float_Finite.calls a0 true _ A30.out).mono ?_); rintro e w' ⟨rfl, ⟨nd, rfl⟩⟩; refine ⟨_, rfl, ?_⟩) | (go_at_call 55; (with_reducible refine (float_Sub.calls a0 a0 t381 _ A32.out).mono ?_); clear A32; rintro e w' ⟨rfl, ⟨nd, rfl⟩⟩))
                  go_ret
                  exact ⟨by first | rfl | (simp; done) | (simp [*]; done), by repeat (first | exact Drawn0.refl _ | apply Drawn0.step)⟩
              · replace c31 := Bool.eq_false_iff.mpr c31
                subst c31
                have H1 : ((lathelaw02_works.f).bind fun t385 => (some t385)) = some r := by rw [if_neg (show ¬ (false = true) by decide)] at H; exact H
                clear H
                have H := H1
                clear H1
                replace H := Option.bind_eq_some_iff.mp H
                obtain ⟨t385, A380, H⟩ := H
                replace H : (some t385) = some r := H
                have A38 := Aside0.mk A380
                clear A380
                obtain rfl := Option.some.inj H
                go_wp2_with (first | ((with_reducible refine gate_callee (f := 58) rfl ?_); refine goesL_ (some 69) rfl rfl Try.func58 (by kernel_rfl) rfl #[.int .u32 a0] rfl (by (try simp only [List.map_toArray, List.map_cons, List.map_nil]); first | done | rfl | (simp only [List.length_drop, List.length_take]; rfl)) ?_; (with_reducible refine (float_Finite.calls a0 false _ A30.out).mono ?_); rintro e w' ⟨rfl, ⟨nd, rfl⟩⟩; refine ⟨_, rfl, ?_⟩) | ((with_reducible refine gate_callee (f := 50) rfl ?_); refine goesL_ (some 83) rfl rfl Try.func50 (by kernel_rfl) rfl #[] rfl (by (try simp only [List.map_toArray, List.map_cons, List.map_nil]); first | done | rfl | (simp only [List.length_drop, List.length_take]; rfl)) ?_; (with_reducible refine (lathelaw02_works.calls  t385 _ A38.out).mono ?_); rintro e w' ⟨rfl, ⟨nd, rfl⟩⟩; refine ⟨_, rfl, ?_⟩))
                go_ret
                exact ⟨by first | rfl | (simp; done) | (simp [*]; done), by repeat (first | exact Drawn0.refl _ | apply Drawn0.step)⟩

/-- THE ONE PURE STATEMENT of lathelaw02_FloatTurns: yours. -/
def lathelaw02_FloatTurns.Pure : Prop := ∀ (a0 : Int) (a1 : Int), (Lit.int .u32 a0).wf = true → (Lit.int .u32 a1).wf = true → ∃ k, lathelaw02_FloatTurns.f k a0 a1 = some true
theorem lathelaw02_FloatTurns.walk (P : lathelaw02_FloatTurns.Pure) (a0 : Int) (a1 : Int) (w : World) (w0 : (Lit.int .u32 a0).wf = true) (w1 : (Lit.int .u32 a1).wf = true) :
    Calls Try.prog 20 #[.int .u32 a0, .int .u32 a1] w fun e w' => e = .returned (.bool true) ∧ Below w.heap.size w w' := by
  obtain ⟨k, h⟩ := P a0 a1 w0 w1
  refine (lathelaw02_FloatTurns.calls k a0 a1 true w h).mono ?_
  rintro e w' ⟨rfl, hd⟩
  exact ⟨rfl, hd.below⟩

/-! ### lathelaw02_nan: function 66 -/
def lathelaw02_nan.f (a0 : Int) : Option (Bool) := (float_Equal.f a0 a0).bind fun t386 => (some (!t386))
set_option maxHeartbeats 8000000 in
set_option maxRecDepth 100000 in
theorem lathelaw02_nan.calls (a0 : Int) (r : Bool) (w : World) (h : lathelaw02_nan.f a0 = some r) :
    Calls Try.prog 66 #[.int .u32 a0] w fun e w' => e = .returned (.bool r) ∧ Drawn0 w w' := by
  have H : ((float_Equal.f a0 a0).bind fun t386 => (some (!t386))) = some r := h
  clear h
  replace H := Option.bind_eq_some_iff.mp H
  obtain ⟨t386, A20, H⟩ := H
  replace H : (some (!t386)) = some r := H
  have A2 := Aside0.mk A20
  clear A20
  obtain rfl := Option.some.inj H
  go_enter Try.func66, Try.ntmps66
  go_wp2_with (first | ((with_reducible refine gate_callee (f := 74) rfl ?_); refine goesL_ (some 5) rfl rfl Try.func74 (by kernel_rfl) rfl #[.int .u32 a0, .int .u32 a0] rfl (by (try simp only [List.map_toArray, List.map_cons, List.map_nil]); first | done | rfl | (simp only [List.length_drop, List.length_take]; rfl)) ?_; (with_reducible refine (float_Equal.calls a0 a0 t386 _ A2.out).mono ?_); rintro e w' ⟨rfl, ⟨nd, rfl⟩⟩; refine ⟨_, rfl, ?_⟩))
  go_ret
  exact ⟨by first | rfl | (simp; done) | (simp [*]; done), by repeat (first | exact Drawn0.refl _ | apply Drawn0.step)⟩

/-! ### lathelaw02_least: function 68 -/
def lathelaw02_least.f (a0 : Int) (a1 : Int) : Option (Bool) := (float_Less.f a0 a1).bind fun t387 => (if t387 = true then (some true) else ((float_Equal.f a0 a1).bind fun t388 => (some t388)))
set_option maxHeartbeats 8000000 in
set_option maxRecDepth 100000 in
theorem lathelaw02_least.calls (a0 : Int) (a1 : Int) (r : Bool) (w : World) (h : lathelaw02_least.f a0 a1 = some r) :
    Calls Try.prog 68 #[.int .u32 a0, .int .u32 a1] w fun e w' => e = .returned (.bool r) ∧ Drawn0 w w' := by
  have H : ((float_Less.f a0 a1).bind fun t387 => (if t387 = true then (some true) else ((float_Equal.f a0 a1).bind fun t388 => (some t388)))) = some r := h
  clear h
  replace H := Option.bind_eq_some_iff.mp H
  obtain ⟨t387, A30, H⟩ := H
  replace H : (if t387 = true then (some true) else ((float_Equal.f a0 a1).bind fun t388 => (some t388))) = some r := H
  have A3 := Aside0.mk A30
  clear A30
  by_cases c4 : t387 = true
  · subst c4
    have H1 : (some true) = some r := by rw [if_pos rfl] at H; exact H
    clear H
    have H := H1
    clear H1
    obtain rfl := Option.some.inj H
    go_enter Try.func68, Try.ntmps68
    go_wp2_with (first | ((with_reducible refine gate_callee (f := 67) rfl ?_); refine goesL_ (some 7) rfl rfl Try.func67 (by kernel_rfl) rfl #[.int .u32 a0, .int .u32 a1] rfl (by (try simp only [List.map_toArray, List.map_cons, List.map_nil]); first | done | rfl | (simp only [List.length_drop, List.length_take]; rfl)) ?_; (with_reducible refine (float_Less.calls a0 a1 true _ A3.out).mono ?_); rintro e w' ⟨rfl, ⟨nd, rfl⟩⟩; refine ⟨_, rfl, ?_⟩))
    go_ret
    exact ⟨by first | rfl | (simp; done) | (simp [*]; done), by repeat (first | exact Drawn0.refl _ | apply Drawn0.step)⟩
  · replace c4 := Bool.eq_false_iff.mpr c4
    subst c4
    have H1 : ((float_Equal.f a0 a1).bind fun t388 => (some t388)) = some r := by rw [if_neg (show ¬ (false = true) by decide)] at H; exact H
    clear H
    have H := H1
    clear H1
    replace H := Option.bind_eq_some_iff.mp H
    obtain ⟨t388, A50, H⟩ := H
    replace H : (some t388) = some r := H
    have A5 := Aside0.mk A50
    clear A50
    obtain rfl := Option.some.inj H
    go_enter Try.func68, Try.ntmps68
    go_wp2_with (first | ((with_reducible refine gate_callee (f := 67) rfl ?_); refine goesL_ (some 7) rfl rfl Try.func67 (by kernel_rfl) rfl #[.int .u32 a0, .int .u32 a1] rfl (by (try simp only [List.map_toArray, List.map_cons, List.map_nil]); first | done | rfl | (simp only [List.length_drop, List.length_take]; rfl)) ?_; (with_reducible refine (float_Less.calls a0 a1 false _ A3.out).mono ?_); rintro e w' ⟨rfl, ⟨nd, rfl⟩⟩; refine ⟨_, rfl, ?_⟩) | (go_at_call 74; (with_reducible refine (float_Equal.calls a0 a1 t388 _ A5.out).mono ?_); clear A5; rintro e w' ⟨rfl, ⟨nd, rfl⟩⟩))
    go_ret
    exact ⟨by first | rfl | (simp; done) | (simp [*]; done), by repeat (first | exact Drawn0.refl _ | apply Drawn0.step)⟩

end Go.Proofs.Ytcegmbplgghjnaa.PF
