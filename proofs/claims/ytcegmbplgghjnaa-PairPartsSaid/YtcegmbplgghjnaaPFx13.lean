/- The functions of the program that a statement reaches, as plain functions, and that the machine's calls do what these say. No condition. (Printed by a program.) -/
import Derived.Test.YtcegmbplgghjnaaPFx0
import Derived.Test.YtcegmbplgghjnaaPFx2
import Derived.Test.YtcegmbplgghjnaaPFx3
import Derived.Test.YtcegmbplgghjnaaPFx4
import Derived.Test.YtcegmbplgghjnaaPFx11
import Derived.Test.YtcegmbplgghjnaaPFx12
namespace Go.Proofs.Ytcegmbplgghjnaa.PF
open Go.RowKit Go.Proofs.YtcegmbplgghjnaaW.PrintWords Go.Proofs.YtcegmbplgghjnaaW.PrintLast Go.Proofs.YtcegmbplgghjnaaW.PrintMore
attribute [local go_sem] max2_int min2_int max_two min_two max_three min_three max_four min_four   -- for this text's walks alone
set_option linter.unusedVariables false
set_option linter.unusedSimpArgs false

/-! ### lathelaw02_FloatOrders: function 21 -/
def lathelaw02_FloatOrders.j0 : Nat → Int → Int → Int → Bool → Option (Bool)
  | 0, _, _, _, _ => none
  | k + 1, x0, x1, x2, x39 => if x39 = true then (some false) else ((float_Equal.f x0 x1).bind fun t334 => ((lathelaw02_n.f x0).bind fun t335 => ((lathelaw02_n.f x1).bind fun t336 => ((latheref02_Equal.f t335 t336).bind fun t337 => (if (t334 == t337) = true then ((float_Finite.f x0).bind fun t338 => ((lathelaw02_n.f x0).bind fun t339 => ((latheref02_Finite.f t339).bind fun t340 => (if (t338 == t340) = true then ((float_Select.f x2 x0 x1).bind fun t341 => ((lathelaw02_n.f t341).bind fun t342 => ((lathelaw02_n.f x2).bind fun t343 => ((lathelaw02_n.f x0).bind fun t344 => ((lathelaw02_n.f x1).bind fun t345 => ((latheref02_Select.f k t343 t344 t345).bind fun t346 => (if t342 = t346 then ((lathelaw02_works.f).bind fun t347 => (some t347)) else (some false)))))))) else (some false))))) else (some false))))))
def lathelaw02_FloatOrders.f (k : Nat) (a0 : Int) (a1 : Int) (a2 : Int) : Option (Bool) := (float_Min.f a0 a1).bind fun t320 => ((lathelaw02_n.f t320).bind fun t321 => ((lathelaw02_n.f a0).bind fun t322 => ((lathelaw02_n.f a1).bind fun t323 => ((latheref02_Min.f t322 t323).bind fun t324 => (if t321 = t324 then ((float_Max.f a0 a1).bind fun t325 => ((lathelaw02_n.f t325).bind fun t326 => ((lathelaw02_n.f a0).bind fun t327 => ((lathelaw02_n.f a1).bind fun t328 => ((latheref02_Max.f t327 t328).bind fun t329 => (if t326 = t329 then ((float_Less.f a0 a1).bind fun t330 => ((lathelaw02_n.f a0).bind fun t331 => ((lathelaw02_n.f a1).bind fun t332 => ((latheref02_Less.f k t331 t332).bind fun t333 => (lathelaw02_FloatOrders.j0 k a0 a1 a2 (t330 != t333)))))) else (lathelaw02_FloatOrders.j0 k a0 a1 a2 true))))))) else (lathelaw02_FloatOrders.j0 k a0 a1 a2 true))))))
theorem lathelaw02_FloatOrders.mono_l : ∀ k, (∀ y0 y1 y2 y3, LeO (lathelaw02_FloatOrders.j0 k y0 y1 y2 y3) (lathelaw02_FloatOrders.j0 (k + 1) y0 y1 y2 y3))
  | 0 => fun _ _ _ _ r h => by simp [lathelaw02_FloatOrders.j0] at h
  | k + 1 => by
    have ih0 := lathelaw02_FloatOrders.mono_l k
    · intro y0 y1 y2 y3
      unfold lathelaw02_FloatOrders.j0
      repeat' first
      | (with_reducible exact ih0 _ _ _ _)
      | (with_reducible exact latheref02_Less.mono _ _ _)
      | (with_reducible exact latheref02_Select.mono _ _ _ _)
      | (with_reducible exact LeO.refl _)
      | (with_reducible exact LeO.none _)
      | (with_reducible refine LeO.ite ?_ ?_)
      | (with_reducible refine LeO.bind ?_ (fun _ => ?_))
      | exact ih0 _ _ _ _
      | exact latheref02_Less.mono _ _ _
      | exact latheref02_Select.mono _ _ _ _
      | exact LeO.none _
      | refine LeO.ite ?_ ?_
      | refine LeO.bind ?_ (fun _ => ?_)
theorem lathelaw02_FloatOrders.mono : ∀ a0 a1 a2 k, LeO (lathelaw02_FloatOrders.f k a0 a1 a2) (lathelaw02_FloatOrders.f (k + 1) a0 a1 a2) := by
  intro a0 a1 a2 k
  have ih0 := lathelaw02_FloatOrders.mono_l k
  unfold lathelaw02_FloatOrders.f
  repeat' first
      | (with_reducible exact ih0 _ _ _ _)
      | (with_reducible exact latheref02_Less.mono _ _ _)
      | (with_reducible exact latheref02_Select.mono _ _ _ _)
      | (with_reducible exact LeO.refl _)
      | (with_reducible exact LeO.none _)
      | (with_reducible refine LeO.ite ?_ ?_)
      | (with_reducible refine LeO.bind ?_ (fun _ => ?_))
      | exact ih0 _ _ _ _
      | exact latheref02_Less.mono _ _ _
      | exact latheref02_Select.mono _ _ _ _
      | exact LeO.none _
      | refine LeO.ite ?_ ?_
      | refine LeO.bind ?_ (fun _ => ?_)
set_option maxHeartbeats 8000000 in
set_option maxRecDepth 100000 in
theorem lathelaw02_FloatOrders.calls (k : Nat) (a0 : Int) (a1 : Int) (a2 : Int) (r : Bool) (w : World) (h : lathelaw02_FloatOrders.f k a0 a1 a2 = some r) :
    Calls Try.prog 21 #[.int .u32 a0, .int .u32 a1, .int .u32 a2] w fun e w' => e = .returned (.bool r) ∧ Below w.heap.size w w' := by
  have HB := Aside0.mk (Below.refl w.heap.size w)
  have H : ((float_Min.f a0 a1).bind fun t320 => ((lathelaw02_n.f t320).bind fun t321 => ((lathelaw02_n.f a0).bind fun t322 => ((lathelaw02_n.f a1).bind fun t323 => ((latheref02_Min.f t322 t323).bind fun t324 => (if t321 = t324 then ((float_Max.f a0 a1).bind fun t325 => ((lathelaw02_n.f t325).bind fun t326 => ((lathelaw02_n.f a0).bind fun t327 => ((lathelaw02_n.f a1).bind fun t328 => ((latheref02_Max.f t327 t328).bind fun t329 => (if t326 = t329 then ((float_Less.f a0 a1).bind fun t330 => ((lathelaw02_n.f a0).bind fun t331 => ((lathelaw02_n.f a1).bind fun t332 => ((latheref02_Less.f k t331 t332).bind fun t333 => (lathelaw02_FloatOrders.j0 k a0 a1 a2 (t330 != t333)))))) else (lathelaw02_FloatOrders.j0 k a0 a1 a2 true))))))) else (lathelaw02_FloatOrders.j0 k a0 a1 a2 true))))))) = some r := h
  clear h
  have HC4 := Aside0.mk H
  clear H
  go_enter Try.func21, Try.ntmps21
  go_upto_region 1 with (fail)
  go_cut [39] (fun v39 wc => ∃ (kq : Nat) (x39_3 : Bool), v39 = .bool x39_3 ∧ Aside0 (lathelaw02_FloatOrders.j0 kq a0 a1 a2 x39_3 = some r) ∧ Aside0 (kq ≤ k) ∧ Aside0 (Below w.heap.size w wc))
  case first =>
    have H := HC4.out
    clear HC4
    replace H := Option.bind_eq_some_iff.mp H
    obtain ⟨t320, A50, H⟩ := H
    replace H : ((lathelaw02_n.f t320).bind fun t321 => ((lathelaw02_n.f a0).bind fun t322 => ((lathelaw02_n.f a1).bind fun t323 => ((latheref02_Min.f t322 t323).bind fun t324 => (if t321 = t324 then ((float_Max.f a0 a1).bind fun t325 => ((lathelaw02_n.f t325).bind fun t326 => ((lathelaw02_n.f a0).bind fun t327 => ((lathelaw02_n.f a1).bind fun t328 => ((latheref02_Max.f t327 t328).bind fun t329 => (if t326 = t329 then ((float_Less.f a0 a1).bind fun t330 => ((lathelaw02_n.f a0).bind fun t331 => ((lathelaw02_n.f a1).bind fun t332 => ((latheref02_Less.f k t331 t332).bind fun t333 => (lathelaw02_FloatOrders.j0 k a0 a1 a2 (t330 != t333)))))) else (lathelaw02_FloatOrders.j0 k a0 a1 a2 true))))))) else (lathelaw02_FloatOrders.j0 k a0 a1 a2 true)))))) = some r := H
    have A5 := Aside0.mk A50
    clear A50
    replace H := Option.bind_eq_some_iff.mp H
    obtain ⟨t321, A60, H⟩ := H
    replace H : ((lathelaw02_n.f a0).bind fun t322 => ((lathelaw02_n.f a1).bind fun t323 => ((latheref02_Min.f t322 t323).bind fun t324 => (if t321 = t324 then ((float_Max.f a0 a1).bind fun t325 => ((lathelaw02_n.f t325).bind fun t326 => ((lathelaw02_n.f a0).bind fun t327 => ((lathelaw02_n.f a1).bind fun t328 => ((latheref02_Max.f t327 t328).bind fun t329 => (if t326 = t329 then ((float_Less.f a0 a1).bind fun t330 => ((lathelaw02_n.f a0).bind fun t331 => ((lathelaw02_n.f a1).bind fun t332 => ((latheref02_Less.f k t331 t332).bind fun t333 => (lathelaw02_FloatOrders.j0 k a0 a1 a2 (t330 != t333)))))) else (lathelaw02_FloatOrders.j0 k a0 a1 a2 true))))))) else (lathelaw02_FloatOrders.j0 k a0 a1 a2 true))))) = some r := H
    have A6 := Aside0.mk A60
    clear A60
    replace H := Option.bind_eq_some_iff.mp H
    obtain ⟨t322, A70, H⟩ := H
    replace H : ((lathelaw02_n.f a1).bind fun t323 => ((latheref02_Min.f t322 t323).bind fun t324 => (if t321 = t324 then ((float_Max.f a0 a1).bind fun t325 => ((lathelaw02_n.f t325).bind fun t326 => ((lathelaw02_n.f a0).bind fun t327 => ((lathelaw02_n.f a1).bind fun t328 => ((latheref02_Max.f t327 t328).bind fun t329 => (if t326 = t329 then ((float_Less.f a0 a1).bind fun t330 => ((lathelaw02_n.f a0).bind fun t331 => ((lathelaw02_n.f a1).bind fun t332 => ((latheref02_Less.f k t331 t332).bind fun t333 => (lathelaw02_FloatOrders.j0 k a0 a1 a2 (t330 != t333)))))) else (lathelaw02_FloatOrders.j0 k a0 a1 a2 true))))))) else (lathelaw02_FloatOrders.j0 k a0 a1 a2 true)))) = some r := H
    have A7 := Aside0.mk A70
    clear A70
    replace H := Option.bind_eq_some_iff.mp H
    obtain ⟨t323, A80, H⟩ := H
    replace H : ((latheref02_Min.f t322 t323).bind fun t324 => (if t321 = t324 then ((float_Max.f a0 a1).bind fun t325 => ((lathelaw02_n.f t325).bind fun t326 => ((lathelaw02_n.f a0).bind fun t327 => ((lathelaw02_n.f a1).bind fun t328 => ((latheref02_Max.f t327 t328).bind fun t329 => (if t326 = t329 then ((float_Less.f a0 a1).bind fun t330 => ((lathelaw02_n.f a0).bind fun t331 => ((lathelaw02_n.f a1).bind fun t332 => ((latheref02_Less.f k t331 t332).bind fun t333 => (lathelaw02_FloatOrders.j0 k a0 a1 a2 (t330 != t333)))))) else (lathelaw02_FloatOrders.j0 k a0 a1 a2 true))))))) else (lathelaw02_FloatOrders.j0 k a0 a1 a2 true))) = some r := H
    have A8 := Aside0.mk A80
    clear A80
    replace H := Option.bind_eq_some_iff.mp H
    obtain ⟨t324, A90, H⟩ := H
    replace H : (if t321 = t324 then ((float_Max.f a0 a1).bind fun t325 => ((lathelaw02_n.f t325).bind fun t326 => ((lathelaw02_n.f a0).bind fun t327 => ((lathelaw02_n.f a1).bind fun t328 => ((latheref02_Max.f t327 t328).bind fun t329 => (if t326 = t329 then ((float_Less.f a0 a1).bind fun t330 => ((lathelaw02_n.f a0).bind fun t331 => ((lathelaw02_n.f a1).bind fun t332 => ((latheref02_Less.f k t331 t332).bind fun t333 => (lathelaw02_FloatOrders.j0 k a0 a1 a2 (t330 != t333)))))) else (lathelaw02_FloatOrders.j0 k a0 a1 a2 true))))))) else (lathelaw02_FloatOrders.j0 k a0 a1 a2 true)) = some r := H
    have A9 := Aside0.mk A90
    clear A90
    by_cases c10 : t321 = t324
    · rw [if_pos c10] at H
      have c10b0 : (t321 == t324) = true := beq_iff_eq.mpr c10
      have c10b1 : (t321 != t324) = false := bne_eq_false_iff_eq.mpr c10
      clear c10
      (first | rw [c10b0] | (simp only [i64_w, i32_w]; rw [c10b0]) | skip)
      replace H := Option.bind_eq_some_iff.mp H
      obtain ⟨t325, A110, H⟩ := H
      replace H : ((lathelaw02_n.f t325).bind fun t326 => ((lathelaw02_n.f a0).bind fun t327 => ((lathelaw02_n.f a1).bind fun t328 => ((latheref02_Max.f t327 t328).bind fun t329 => (if t326 = t329 then ((float_Less.f a0 a1).bind fun t330 => ((lathelaw02_n.f a0).bind fun t331 => ((lathelaw02_n.f a1).bind fun t332 => ((latheref02_Less.f k t331 t332).bind fun t333 => (lathelaw02_FloatOrders.j0 k a0 a1 a2 (t330 != t333)))))) else (lathelaw02_FloatOrders.j0 k a0 a1 a2 true)))))) = some r := H
      have A11 := Aside0.mk A110
      clear A110
      replace H := Option.bind_eq_some_iff.mp H
      obtain ⟨t326, A120, H⟩ := H
      replace H : ((lathelaw02_n.f a0).bind fun t327 => ((lathelaw02_n.f a1).bind fun t328 => ((latheref02_Max.f t327 t328).bind fun t329 => (if t326 = t329 then ((float_Less.f a0 a1).bind fun t330 => ((lathelaw02_n.f a0).bind fun t331 => ((lathelaw02_n.f a1).bind fun t332 => ((latheref02_Less.f k t331 t332).bind fun t333 => (lathelaw02_FloatOrders.j0 k a0 a1 a2 (t330 != t333)))))) else (lathelaw02_FloatOrders.j0 k a0 a1 a2 true))))) = some r := H
      have A12 := Aside0.mk A120
      clear A120
      replace H := Option.bind_eq_some_iff.mp H
      obtain ⟨t327, A130, H⟩ := H
      replace H : ((lathelaw02_n.f a1).bind fun t328 => ((latheref02_Max.f t327 t328).bind fun t329 => (if t326 = t329 then ((float_Less.f a0 a1).bind fun t330 => ((lathelaw02_n.f a0).bind fun t331 => ((lathelaw02_n.f a1).bind fun t332 => ((latheref02_Less.f k t331 t332).bind fun t333 => (lathelaw02_FloatOrders.j0 k a0 a1 a2 (t330 != t333)))))) else (lathelaw02_FloatOrders.j0 k a0 a1 a2 true)))) = some r := H
      have A13 := Aside0.mk A130
      clear A130
      replace H := Option.bind_eq_some_iff.mp H
      obtain ⟨t328, A140, H⟩ := H
      replace H : ((latheref02_Max.f t327 t328).bind fun t329 => (if t326 = t329 then ((float_Less.f a0 a1).bind fun t330 => ((lathelaw02_n.f a0).bind fun t331 => ((lathelaw02_n.f a1).bind fun t332 => ((latheref02_Less.f k t331 t332).bind fun t333 => (lathelaw02_FloatOrders.j0 k a0 a1 a2 (t330 != t333)))))) else (lathelaw02_FloatOrders.j0 k a0 a1 a2 true))) = some r := H
      have A14 := Aside0.mk A140
      clear A140
      replace H := Option.bind_eq_some_iff.mp H
      obtain ⟨t329, A150, H⟩ := H
      replace H : (if t326 = t329 then ((float_Less.f a0 a1).bind fun t330 => ((lathelaw02_n.f a0).bind fun t331 => ((lathelaw02_n.f a1).bind fun t332 => ((latheref02_Less.f k t331 t332).bind fun t333 => (lathelaw02_FloatOrders.j0 k a0 a1 a2 (t330 != t333)))))) else (lathelaw02_FloatOrders.j0 k a0 a1 a2 true)) = some r := H
      have A15 := Aside0.mk A150
      clear A150
      by_cases c16 : t326 = t329
      · rw [if_pos c16] at H
        have c16b0 : (t326 == t329) = true := beq_iff_eq.mpr c16
        have c16b1 : (t326 != t329) = false := bne_eq_false_iff_eq.mpr c16
        clear c16
        replace H := Option.bind_eq_some_iff.mp H
        obtain ⟨t330, A170, H⟩ := H
        replace H : ((lathelaw02_n.f a0).bind fun t331 => ((lathelaw02_n.f a1).bind fun t332 => ((latheref02_Less.f k t331 t332).bind fun t333 => (lathelaw02_FloatOrders.j0 k a0 a1 a2 (t330 != t333))))) = some r := H
        have A17 := Aside0.mk A170
        clear A170
        replace H := Option.bind_eq_some_iff.mp H
        obtain ⟨t331, A180, H⟩ := H
        replace H : ((lathelaw02_n.f a1).bind fun t332 => ((latheref02_Less.f k t331 t332).bind fun t333 => (lathelaw02_FloatOrders.j0 k a0 a1 a2 (t330 != t333)))) = some r := H
        have A18 := Aside0.mk A180
        clear A180
        replace H := Option.bind_eq_some_iff.mp H
        obtain ⟨t332, A190, H⟩ := H
        replace H : ((latheref02_Less.f k t331 t332).bind fun t333 => (lathelaw02_FloatOrders.j0 k a0 a1 a2 (t330 != t333))) = some r := H
        have A19 := Aside0.mk A190
        clear A190
        replace H := Option.bind_eq_some_iff.mp H
        obtain ⟨t333, A200, H⟩ := H
        replace H : (lathelaw02_FloatOrders.j0 k a0 a1 a2 (t330 != t333)) = some r := H
        have A20 := Aside0.mk A200
        clear A200
        have H' := Aside0.mk H
        clear H
        go_wp2_with (first | ((with_reducible refine gate_callee (f := 72) rfl ?_); refine goesL_ (some 9) rfl rfl Try.func72 (by kernel_rfl) rfl #[.int .u32 a0, .int .u32 a1] rfl (by (try simp only [List.map_toArray, List.map_cons, List.map_nil]); first | done | rfl | (simp only [List.length_drop, List.length_take]; rfl)) ?_; (with_reducible refine (float_Min.calls a0 a1 t320 _ A5.out).mono ?_); rintro e w' ⟨rfl, ⟨nd, rfl⟩⟩; refine ⟨_, rfl, ?_⟩) | ((with_reducible refine gate_callee (f := 47) rfl ?_); refine goesL_ (some 10) rfl rfl Try.func47 (by kernel_rfl) rfl #[.int .u32 t320] rfl (by (try simp only [List.map_toArray, List.map_cons, List.map_nil]); first | done | rfl | (simp only [List.length_drop, List.length_take]; rfl)) ?_; (with_reducible refine (lathelaw02_n.calls t320 t321 _ A6.out).mono ?_); rintro e w' ⟨rfl, ⟨nd, rfl⟩⟩; refine ⟨_, rfl, ?_⟩) | ((with_reducible refine gate_callee (f := 47) rfl ?_); refine goesL_ (some 12) rfl rfl Try.func47 (by kernel_rfl) rfl #[.int .u32 a0] rfl (by (try simp only [List.map_toArray, List.map_cons, List.map_nil]); first | done | rfl | (simp only [List.length_drop, List.length_take]; rfl)) ?_; (with_reducible refine (lathelaw02_n.calls a0 t322 _ A7.out).mono ?_); rintro e w' ⟨rfl, ⟨nd, rfl⟩⟩; refine ⟨_, rfl, ?_⟩) | ((with_reducible refine gate_callee (f := 47) rfl ?_); refine goesL_ (some 14) rfl rfl Try.func47 (by kernel_rfl) rfl #[.int .u32 a1] rfl (by (try simp only [List.map_toArray, List.map_cons, List.map_nil]); first | done | rfl | (simp only [List.length_drop, List.length_take]; rfl)) ?_; (with_reducible refine (lathelaw02_n.calls a1 t323 _ A8.out).mono ?_); rintro e w' ⟨rfl, ⟨nd, rfl⟩⟩; refine ⟨_, rfl, ?_⟩) | ((with_reducible refine gate_callee (f := 75) rfl ?_); refine goesL_ (some 15) rfl rfl Try.func75 (by kernel_rfl) rfl #[.int .i64 t322, .int .i64 t323] rfl (by (try simp only [List.map_toArray, List.map_cons, List.map_nil]); first | done | rfl | (simp only [List.length_drop, List.length_take]; rfl)) ?_; (with_reducible refine (latheref02_Min.calls t322 t323 t324 _ A9.out).mono ?_); rintro e w21 ⟨rfl, hb⟩; refine ⟨_, rfl, ?_⟩; have n0_ := Aside0.mk (below_step (by repeat (first | (with_reducible first | exact HB.out | apply below_alloc | apply pw_below_drewN | apply below_drew1) | exact HB.out)) hb); clear HB; have HB := n0_; clear n0_; (try clear hb); (try clear hb2); (try clear hk); (try clear hi)) | (go_at_call 73; (with_reducible refine (float_Max.calls a0 a1 t325 _ A11.out).mono ?_); clear A11; rintro e w' ⟨rfl, ⟨nd, rfl⟩⟩) | (go_at_call 47; (with_reducible refine (lathelaw02_n.calls t325 t326 _ A12.out).mono ?_); clear A12; rintro e w' ⟨rfl, ⟨nd, rfl⟩⟩) | (go_at_call 47; (with_reducible refine (lathelaw02_n.calls a0 t327 _ A13.out).mono ?_); clear A13; rintro e w' ⟨rfl, ⟨nd, rfl⟩⟩) | (go_at_call 47; (with_reducible refine (lathelaw02_n.calls a1 t328 _ A14.out).mono ?_); clear A14; rintro e w' ⟨rfl, ⟨nd, rfl⟩⟩) | (go_at_call 76; (with_reducible refine (latheref02_Max.calls t327 t328 t329 _ A15.out).mono ?_); clear A15; rintro e w22 ⟨rfl, hb⟩; have n0_ := Aside0.mk (below_step (by repeat (first | (with_reducible first | exact HB.out | apply below_alloc | apply pw_below_drewN | apply below_drew1) | exact HB.out)) hb); clear HB; have HB := n0_; clear n0_; (try clear hb); (try clear hb2); (try clear hk); (try clear hi)) | (go_at_call 67; (with_reducible refine (float_Less.calls a0 a1 t330 _ A17.out).mono ?_); clear A17; rintro e w' ⟨rfl, ⟨nd, rfl⟩⟩) | (go_at_call 47; (with_reducible refine (lathelaw02_n.calls a0 t331 _ A18.out).mono ?_); clear A18; rintro e w' ⟨rfl, ⟨nd, rfl⟩⟩) | (go_at_call 47; (with_reducible refine (lathelaw02_n.calls a1 t332 _ A19.out).mono ?_); clear A19; rintro e w' ⟨rfl, ⟨nd, rfl⟩⟩) | (go_at_call 77; (with_reducible refine (latheref02_Less.calls k t331 t332 t333 _ A20.out).mono ?_); clear A20; rintro e w23 ⟨rfl, hb⟩; have n0_ := Aside0.mk (below_step (by repeat (first | (with_reducible first | exact HB.out | apply below_alloc | apply pw_below_drewN | apply below_drew1) | exact HB.out)) hb); clear HB; have HB := n0_; clear n0_; (try clear hb); (try clear hb2); (try clear hk); (try clear hi)))
        go_meet
        case rel => exact ⟨_, ((t330 != t333)), (by first | rfl | (simp; done) | (simp [*]; done)), H', ⟨by first | omega | exact Nat.le_refl _⟩, ⟨by repeat (first | (with_reducible first | exact HB.out | apply below_alloc | apply pw_below_drewN | apply below_drew1) | exact HB.out)⟩⟩
      · rw [if_neg c16] at H
        have c16b0 : (t326 == t329) = false := beq_eq_false_iff_ne.mpr c16
        have c16b1 : (t326 != t329) = true := bne_iff_ne.mpr c16
        have H' := Aside0.mk H
        clear H
        go_wp2_with (first | ((with_reducible refine gate_callee (f := 72) rfl ?_); refine goesL_ (some 9) rfl rfl Try.func72 (by kernel_rfl) rfl #[.int .u32 a0, .int .u32 a1] rfl (by (try simp only [List.map_toArray, List.map_cons, List.map_nil]); first | done | rfl | (simp only [List.length_drop, List.length_take]; rfl)) ?_; (with_reducible refine (float_Min.calls a0 a1 t320 _ A5.out).mono ?_); rintro e w' ⟨rfl, ⟨nd, rfl⟩⟩; refine ⟨_, rfl, ?_⟩) | ((with_reducible refine gate_callee (f := 47) rfl ?_); refine goesL_ (some 10) rfl rfl Try.func47 (by kernel_rfl) rfl #[.int .u32 t320] rfl (by (try simp only [List.map_toArray, List.map_cons, List.map_nil]); first | done | rfl | (simp only [List.length_drop, List.length_take]; rfl)) ?_; (with_reducible refine (lathelaw02_n.calls t320 t321 _ A6.out).mono ?_); rintro e w' ⟨rfl, ⟨nd, rfl⟩⟩; refine ⟨_, rfl, ?_⟩) | ((with_reducible refine gate_callee (f := 47) rfl ?_); refine goesL_ (some 12) rfl rfl Try.func47 (by kernel_rfl) rfl #[.int .u32 a0] rfl (by (try simp only [List.map_toArray, List.map_cons, List.map_nil]); first | done | rfl | (simp only [List.length_drop, List.length_take]; rfl)) ?_; (with_reducible refine (lathelaw02_n.calls a0 t322 _ A7.out).mono ?_); rintro e w' ⟨rfl, ⟨nd, rfl⟩⟩; refine ⟨_, rfl, ?_⟩) | ((with_reducible refine gate_callee (f := 47) rfl ?_); refine goesL_ (some 14) rfl rfl Try.func47 (by kernel_rfl) rfl #[.int .u32 a1] rfl (by (try simp only [List.map_toArray, List.map_cons, List.map_nil]); first | done | rfl | (simp only [List.length_drop, List.length_take]; rfl)) ?_; (with_reducible refine (lathelaw02_n.calls a1 t323 _ A8.out).mono ?_); rintro e w' ⟨rfl, ⟨nd, rfl⟩⟩; refine ⟨_, rfl, ?_⟩) | ((with_reducible refine gate_callee (f := 75) rfl ?_); refine goesL_ (some 15) rfl rfl Try.func75 (by kernel_rfl) rfl #[.int .i64 t322, .int .i64 t323] rfl (by (try simp only [List.map_toArray, List.map_cons, List.map_nil]); first | done | rfl | (simp only [List.length_drop, List.length_take]; rfl)) ?_; (with_reducible refine (latheref02_Min.calls t322 t323 t324 _ A9.out).mono ?_); rintro e w24 ⟨rfl, hb⟩; refine ⟨_, rfl, ?_⟩; have n0_ := Aside0.mk (below_step (by repeat (first | (with_reducible first | exact HB.out | apply below_alloc | apply pw_below_drewN | apply below_drew1) | exact HB.out)) hb); clear HB; have HB := n0_; clear n0_; (try clear hb); (try clear hb2); (try clear hk); (try clear hi)) | (go_at_call 73; (with_reducible refine (float_Max.calls a0 a1 t325 _ A11.out).mono ?_); clear A11; rintro e w' ⟨rfl, ⟨nd, rfl⟩⟩) | (go_at_call 47; (with_reducible refine (lathelaw02_n.calls t325 t326 _ A12.out).mono ?_); clear A12; rintro e w' ⟨rfl, ⟨nd, rfl⟩⟩) | (go_at_call 47; (with_reducible refine (lathelaw02_n.calls a0 t327 _ A13.out).mono ?_); clear A13; rintro e w' ⟨rfl, ⟨nd, rfl⟩⟩) | (go_at_call 47; (with_reducible refine (lathelaw02_n.calls a1 t328 _ A14.out).mono ?_); clear A14; rintro e w' ⟨rfl, ⟨nd, rfl⟩⟩) | (go_at_call 76; (with_reducible refine (latheref02_Max.calls t327 t328 t329 _ A15.out).mono ?_); clear A15; rintro e w25 ⟨rfl, hb⟩; have n0_ := Aside0.mk (below_step (by repeat (first | (with_reducible first | exact HB.out | apply below_alloc | apply pw_below_drewN | apply below_drew1) | exact HB.out)) hb); clear HB; have HB := n0_; clear n0_; (try clear hb); (try clear hb2); (try clear hk); (try clear hi)))
        go_meet
        case rel => exact ⟨_, (true), (by first | rfl | (simp; done) | (simp [*]; done)), H', ⟨by first | omega | exact Nat.le_refl _⟩, ⟨by repeat (first | (with_reducible first | exact HB.out | apply below_alloc | apply pw_below_drewN | apply below_drew1) | exact HB.out)⟩⟩
    · rw [if_neg c10] at H
      have c10b0 : (t321 == t324) = false := beq_eq_false_iff_ne.mpr c10
      have c10b1 : (t321 != t324) = true := bne_iff_ne.mpr c10
      (first | rw [c10b0] | (simp only [i64_w, i32_w]; rw [c10b0]) | skip)
      have H' := Aside0.mk H
      clear H
      go_wp2_with (first | ((with_reducible refine gate_callee (f := 72) rfl ?_); refine goesL_ (some 9) rfl rfl Try.func72 (by kernel_rfl) rfl #[.int .u32 a0, .int .u32 a1] rfl (by (try simp only [List.map_toArray, List.map_cons, List.map_nil]); first | done | rfl | (simp only [List.length_drop, List.length_take]; rfl)) ?_; (with_reducible refine (float_Min.calls a0 a1 t320 _ A5.out).mono ?_); rintro e w' ⟨rfl, ⟨nd, rfl⟩⟩; refine ⟨_, rfl, ?_⟩) | ((with_reducible refine gate_callee (f := 47) rfl ?_); refine goesL_ (some 10) rfl rfl Try.func47 (by kernel_rfl) rfl #[.int .u32 t320] rfl (by (try simp only [List.map_toArray, List.map_cons, List.map_nil]); first | done | rfl | (simp only [List.length_drop, List.length_take]; rfl)) ?_; (with_reducible refine (lathelaw02_n.calls t320 t321 _ A6.out).mono ?_); rintro e w' ⟨rfl, ⟨nd, rfl⟩⟩; refine ⟨_, rfl, ?_⟩) | ((with_reducible refine gate_callee (f := 47) rfl ?_); refine goesL_ (some 12) rfl rfl Try.func47 (by kernel_rfl) rfl #[.int .u32 a0] rfl (by (try simp only [List.map_toArray, List.map_cons, List.map_nil]); first | done | rfl | (simp only [List.length_drop, List.length_take]; rfl)) ?_; (with_reducible refine (lathelaw02_n.calls a0 t322 _ A7.out).mono ?_); rintro e w' ⟨rfl, ⟨nd, rfl⟩⟩; refine ⟨_, rfl, ?_⟩) | ((with_reducible refine gate_callee (f := 47) rfl ?_); refine goesL_ (some 14) rfl rfl Try.func47 (by kernel_rfl) rfl #[.int .u32 a1] rfl (by (try simp only [List.map_toArray, List.map_cons, List.map_nil]); first | done | rfl | (simp only [List.length_drop, List.length_take]; rfl)) ?_; (with_reducible refine (lathelaw02_n.calls a1 t323 _ A8.out).mono ?_); rintro e w' ⟨rfl, ⟨nd, rfl⟩⟩; refine ⟨_, rfl, ?_⟩) | ((with_reducible refine gate_callee (f := 75) rfl ?_); refine goesL_ (some 15) rfl rfl Try.func75 (by kernel_rfl) rfl #[.int .i64 t322, .int .i64 t323] rfl (by (try simp only [List.map_toArray, List.map_cons, List.map_nil]); first | done | rfl | (simp only [List.length_drop, List.length_take]; rfl)) ?_; (with_reducible refine (latheref02_Min.calls t322 t323 t324 _ A9.out).mono ?_); rintro e w26 ⟨rfl, hb⟩; refine ⟨_, rfl, ?_⟩; have n0_ := Aside0.mk (below_step (by repeat (first | (with_reducible first | exact HB.out | apply below_alloc | apply pw_below_drewN | apply below_drew1) | exact HB.out)) hb); clear HB; have HB := n0_; clear n0_; (try clear hb); (try clear hb2); (try clear hk); (try clear hi)))
      go_meet
      case rel => exact ⟨_, (true), (by first | rfl | (simp; done) | (simp [*]; done)), H', ⟨by first | omega | exact Nat.le_refl _⟩, ⟨by repeat (first | (with_reducible first | exact HB.out | apply below_alloc | apply pw_below_drewN | apply below_drew1) | exact HB.out)⟩⟩
  case rest =>
    clear HC4
    try clear c1
    try clear c2
    try clear p2
    try clear c4
    try clear c7
    try clear c10
    try clear c10b0
    try clear c10b1
    try clear c16
    try clear c16b0
    try clear c16b1
    try clear c21
    obtain ⟨kq, x39_3, rfl, HA, HJ3, HB⟩ := hcut
    cases kq with
    | zero => exact absurd HA.out (by simp [lathelaw02_FloatOrders.j0])
    | succ kj3 =>
      have H := HA.out
      clear HA
      simp only [lathelaw02_FloatOrders.j0] at H
      by_cases c27 : x39_3 = true
      · subst c27
        have H1 : (some false) = some r := by rw [if_pos rfl] at H; exact H
        clear H
        have H := H1
        clear H1
        obtain rfl := Option.some.inj H
        go_wp2
        go_ret
        exact ⟨by first | rfl | (simp [errW_none, errW_some] <;> rfl) | (simp [*, errW_none, errW_some] <;> rfl), by repeat (first | (with_reducible first | exact HB.out | apply below_alloc | apply pw_below_drewN | apply below_drew1) | exact HB.out)⟩
      · replace c27 := Bool.eq_false_iff.mpr c27
        subst c27
        have H1 : ((float_Equal.f a0 a1).bind fun t334 => ((lathelaw02_n.f a0).bind fun t335 => ((lathelaw02_n.f a1).bind fun t336 => ((latheref02_Equal.f t335 t336).bind fun t337 => (if (t334 == t337) = true then ((float_Finite.f a0).bind fun t338 => ((lathelaw02_n.f a0).bind fun t339 => ((latheref02_Finite.f t339).bind fun t340 => (if (t338 == t340) = true then ((float_Select.f a2 a0 a1).bind fun t341 => ((lathelaw02_n.f t341).bind fun t342 => ((lathelaw02_n.f a2).bind fun t343 => ((lathelaw02_n.f a0).bind fun t344 => ((lathelaw02_n.f a1).bind fun t345 => ((latheref02_Select.f kj3 t343 t344 t345).bind fun t346 => (if t342 = t346 then ((lathelaw02_works.f).bind fun t347 => (some t347)) else (some false)))))))) else (some false))))) else (some false)))))) = some r := by rw [if_neg (show ¬ (false = true) by decide)] at H; exact H
        clear H
        have H := H1
        clear H1
        replace H := Option.bind_eq_some_iff.mp H
        obtain ⟨t334, A280, H⟩ := H
        replace H : ((lathelaw02_n.f a0).bind fun t335 => ((lathelaw02_n.f a1).bind fun t336 => ((latheref02_Equal.f t335 t336).bind fun t337 => (if (t334 == t337) = true then ((float_Finite.f a0).bind fun t338 => ((lathelaw02_n.f a0).bind fun t339 => ((latheref02_Finite.f t339).bind fun t340 => (if (t338 == t340) = true then ((float_Select.f a2 a0 a1).bind fun t341 => ((lathelaw02_n.f t341).bind fun t342 => ((lathelaw02_n.f a2).bind fun t343 => ((lathelaw02_n.f a0).bind fun t344 => ((lathelaw02_n.f a1).bind fun t345 => ((latheref02_Select.f kj3 t343 t344 t345).bind fun t346 => (if t342 = t346 then ((lathelaw02_works.f).bind fun t347 => (some t347)) else (some false)))))))) else (some false))))) else (some false))))) = some r := H
        have A28 := Aside0.mk A280
        clear A280
        replace H := Option.bind_eq_some_iff.mp H
        obtain ⟨t335, A290, H⟩ := H
        replace H : ((lathelaw02_n.f a1).bind fun t336 => ((latheref02_Equal.f t335 t336).bind fun t337 => (if (t334 == t337) = true then ((float_Finite.f a0).bind fun t338 => ((lathelaw02_n.f a0).bind fun t339 => ((latheref02_Finite.f t339).bind fun t340 => (if (t338 == t340) = true then ((float_Select.f a2 a0 a1).bind fun t341 => ((lathelaw02_n.f t341).bind fun t342 => ((lathelaw02_n.f a2).bind fun t343 => ((lathelaw02_n.f a0).bind fun t344 => ((lathelaw02_n.f a1).bind fun t345 => ((latheref02_Select.f kj3 t343 t344 t345).bind fun t346 => (if t342 = t346 then ((lathelaw02_works.f).bind fun t347 => (some t347)) else (some false)))))))) else (some false))))) else (some false)))) = some r := H
        have A29 := Aside0.mk A290
        clear A290
        replace H := Option.bind_eq_some_iff.mp H
        obtain ⟨t336, A300, H⟩ := H
        replace H : ((latheref02_Equal.f t335 t336).bind fun t337 => (if (t334 == t337) = true then ((float_Finite.f a0).bind fun t338 => ((lathelaw02_n.f a0).bind fun t339 => ((latheref02_Finite.f t339).bind fun t340 => (if (t338 == t340) = true then ((float_Select.f a2 a0 a1).bind fun t341 => ((lathelaw02_n.f t341).bind fun t342 => ((lathelaw02_n.f a2).bind fun t343 => ((lathelaw02_n.f a0).bind fun t344 => ((lathelaw02_n.f a1).bind fun t345 => ((latheref02_Select.f kj3 t343 t344 t345).bind fun t346 => (if t342 = t346 then ((lathelaw02_works.f).bind fun t347 => (some t347)) else (some false)))))))) else (some false))))) else (some false))) = some r := H
        have A30 := Aside0.mk A300
        clear A300
        replace H := Option.bind_eq_some_iff.mp H
        obtain ⟨t337, A310, H⟩ := H
        replace H : (if (t334 == t337) = true then ((float_Finite.f a0).bind fun t338 => ((lathelaw02_n.f a0).bind fun t339 => ((latheref02_Finite.f t339).bind fun t340 => (if (t338 == t340) = true then ((float_Select.f a2 a0 a1).bind fun t341 => ((lathelaw02_n.f t341).bind fun t342 => ((lathelaw02_n.f a2).bind fun t343 => ((lathelaw02_n.f a0).bind fun t344 => ((lathelaw02_n.f a1).bind fun t345 => ((latheref02_Select.f kj3 t343 t344 t345).bind fun t346 => (if t342 = t346 then ((lathelaw02_works.f).bind fun t347 => (some t347)) else (some false)))))))) else (some false))))) else (some false)) = some r := H
        have A31 := Aside0.mk A310
        clear A310
        by_cases c32 : (t334 == t337) = true
        · rw [if_pos c32] at H
          have c32b0 : (t334 == t337) = true := c32
          (try (have c32b1 : decide (t334 = t337) = true := by simpa using c32))
          (try (have c32b2 : (t334 == t337) = true := by simpa using c32))
          clear c32
          replace H := Option.bind_eq_some_iff.mp H
          obtain ⟨t338, A330, H⟩ := H
          replace H : ((lathelaw02_n.f a0).bind fun t339 => ((latheref02_Finite.f t339).bind fun t340 => (if (t338 == t340) = true then ((float_Select.f a2 a0 a1).bind fun t341 => ((lathelaw02_n.f t341).bind fun t342 => ((lathelaw02_n.f a2).bind fun t343 => ((lathelaw02_n.f a0).bind fun t344 => ((lathelaw02_n.f a1).bind fun t345 => ((latheref02_Select.f kj3 t343 t344 t345).bind fun t346 => (if t342 = t346 then ((lathelaw02_works.f).bind fun t347 => (some t347)) else (some false)))))))) else (some false)))) = some r := H
          have A33 := Aside0.mk A330
          clear A330
          replace H := Option.bind_eq_some_iff.mp H
          obtain ⟨t339, A340, H⟩ := H
          replace H : ((latheref02_Finite.f t339).bind fun t340 => (if (t338 == t340) = true then ((float_Select.f a2 a0 a1).bind fun t341 => ((lathelaw02_n.f t341).bind fun t342 => ((lathelaw02_n.f a2).bind fun t343 => ((lathelaw02_n.f a0).bind fun t344 => ((lathelaw02_n.f a1).bind fun t345 => ((latheref02_Select.f kj3 t343 t344 t345).bind fun t346 => (if t342 = t346 then ((lathelaw02_works.f).bind fun t347 => (some t347)) else (some false)))))))) else (some false))) = some r := H
          have A34 := Aside0.mk A340
          clear A340
          replace H := Option.bind_eq_some_iff.mp H
          obtain ⟨t340, A350, H⟩ := H
          replace H : (if (t338 == t340) = true then ((float_Select.f a2 a0 a1).bind fun t341 => ((lathelaw02_n.f t341).bind fun t342 => ((lathelaw02_n.f a2).bind fun t343 => ((lathelaw02_n.f a0).bind fun t344 => ((lathelaw02_n.f a1).bind fun t345 => ((latheref02_Select.f kj3 t343 t344 t345).bind fun t346 => (if t342 = t346 then ((lathelaw02_works.f).bind fun t347 => (some t347)) else (some false)))))))) else (some false)) = some r := H
          have A35 := Aside0.mk A350
          clear A350
          by_cases c36 : (t338 == t340) = true
          · rw [if_pos c36] at H
            have c36b0 : (t338 == t340) = true := c36
            (try (have c36b1 : decide (t338 = t340) = true := by simpa using c36))
            (try (have c36b2 : (t338 == t340) = true := by simpa using c36))
            clear c36
            replace H := Option.bind_eq_some_iff.mp H
            obtain ⟨t341, A370, H⟩ := H
            replace H : ((lathelaw02_n.f t341).bind fun t342 => ((lathelaw02_n.f a2).bind fun t343 => ((lathelaw02_n.f a0).bind fun t344 => ((lathelaw02_n.f a1).bind fun t345 => ((latheref02_Select.f kj3 t343 t344 t345).bind fun t346 => (if t342 = t346 then ((lathelaw02_works.f).bind fun t347 => (some t347)) else (some false))))))) = some r := H
            have A37 := Aside0.mk A370
            clear A370
            replace H := Option.bind_eq_some_iff.mp H
            obtain ⟨t342, A380, H⟩ := H
            replace H : ((lathelaw02_n.f a2).bind fun t343 => ((lathelaw02_n.f a0).bind fun t344 => ((lathelaw02_n.f a1).bind fun t345 => ((latheref02_Select.f kj3 t343 t344 t345).bind fun t346 => (if t342 = t346 then ((lathelaw02_works.f).bind fun t347 => (some t347)) else (some false)))))) = some r := H
            have A38 := Aside0.mk A380
            clear A380
            replace H := Option.bind_eq_some_iff.mp H
            obtain ⟨t343, A390, H⟩ := H
            replace H : ((lathelaw02_n.f a0).bind fun t344 => ((lathelaw02_n.f a1).bind fun t345 => ((latheref02_Select.f kj3 t343 t344 t345).bind fun t346 => (if t342 = t346 then ((lathelaw02_works.f).bind fun t347 => (some t347)) else (some false))))) = some r := H
            have A39 := Aside0.mk A390
            clear A390
            replace H := Option.bind_eq_some_iff.mp H
            obtain ⟨t344, A400, H⟩ := H
            replace H : ((lathelaw02_n.f a1).bind fun t345 => ((latheref02_Select.f kj3 t343 t344 t345).bind fun t346 => (if t342 = t346 then ((lathelaw02_works.f).bind fun t347 => (some t347)) else (some false)))) = some r := H
            have A40 := Aside0.mk A400
            clear A400
            replace H := Option.bind_eq_some_iff.mp H
            obtain ⟨t345, A410, H⟩ := H
            replace H : ((latheref02_Select.f kj3 t343 t344 t345).bind fun t346 => (if t342 = t346 then ((lathelaw02_works.f).bind fun t347 => (some t347)) else (some false))) = some r := H
            have A41 := Aside0.mk A410
            clear A410
            replace H := Option.bind_eq_some_iff.mp H
            obtain ⟨t346, A420, H⟩ := H
            replace H : (if t342 = t346 then ((lathelaw02_works.f).bind fun t347 => (some t347)) else (some false)) = some r := H
            have A42 := Aside0.mk A420
            clear A420
            by_cases c43 : t342 = t346
            · rw [if_pos c43] at H
              have c43b0 : (t342 == t346) = true := beq_iff_eq.mpr c43
              have c43b1 : (t342 != t346) = false := bne_eq_false_iff_eq.mpr c43
              clear c43
              replace H := Option.bind_eq_some_iff.mp H
              obtain ⟨t347, A440, H⟩ := H
              replace H : (some t347) = some r := H
              have A44 := Aside0.mk A440
              clear A440
              obtain rfl := Option.some.inj H
              go_wp2_with (first | ((with_reducible refine gate_callee (f := 74) rfl ?_); refine goesL_ (some 42) rfl rfl Try.func74 (by kernel_rfl) rfl #[.int .u32 a0, .int .u32 a1] rfl (by (try simp only [List.map_toArray, List.map_cons, List.map_nil]); first | done | rfl | (simp only [List.length_drop, List.length_take]; rfl)) ?_; (with_reducible refine (float_Equal.calls a0 a1 t334 _ A28.out).mono ?_); rintro e w' ⟨rfl, ⟨nd, rfl⟩⟩; refine ⟨_, rfl, ?_⟩) | ((with_reducible refine gate_callee (f := 47) rfl ?_); refine goesL_ (some 44) rfl rfl Try.func47 (by kernel_rfl) rfl #[.int .u32 a0] rfl (by (try simp only [List.map_toArray, List.map_cons, List.map_nil]); first | done | rfl | (simp only [List.length_drop, List.length_take]; rfl)) ?_; (with_reducible refine (lathelaw02_n.calls a0 t335 _ A29.out).mono ?_); rintro e w' ⟨rfl, ⟨nd, rfl⟩⟩; refine ⟨_, rfl, ?_⟩) | ((with_reducible refine gate_callee (f := 47) rfl ?_); refine goesL_ (some 46) rfl rfl Try.func47 (by kernel_rfl) rfl #[.int .u32 a1] rfl (by (try simp only [List.map_toArray, List.map_cons, List.map_nil]); first | done | rfl | (simp only [List.length_drop, List.length_take]; rfl)) ?_; (with_reducible refine (lathelaw02_n.calls a1 t336 _ A30.out).mono ?_); rintro e w' ⟨rfl, ⟨nd, rfl⟩⟩; refine ⟨_, rfl, ?_⟩) | ((with_reducible refine gate_callee (f := 78) rfl ?_); refine goesL_ (some 47) rfl rfl Try.func78 (by kernel_rfl) rfl #[.int .i64 t335, .int .i64 t336] rfl (by (try simp only [List.map_toArray, List.map_cons, List.map_nil]); first | done | rfl | (simp only [List.length_drop, List.length_take]; rfl)) ?_; (with_reducible refine (latheref02_Equal.calls t335 t336 t337 _ A31.out).mono ?_); rintro e w45 ⟨rfl, hb⟩; refine ⟨_, rfl, ?_⟩; have n0_ := Aside0.mk (below_step (by repeat (first | (with_reducible first | exact HB.out | apply below_alloc | apply pw_below_drewN | apply below_drew1) | exact HB.out)) hb); clear HB; have HB := n0_; clear n0_; (try clear hb); (try clear hb2); (try clear hk); (try clear hi)) | (go_at_call 58; (with_reducible refine (float_Finite.calls a0 t338 _ A33.out).mono ?_); clear A33; rintro e w' ⟨rfl, ⟨nd, rfl⟩⟩) | (go_at_call 47; (with_reducible refine (lathelaw02_n.calls a0 t339 _ A34.out).mono ?_); clear A34; rintro e w' ⟨rfl, ⟨nd, rfl⟩⟩) | (go_at_call 79; (with_reducible refine (latheref02_Finite.calls t339 t340 _ A35.out).mono ?_); clear A35; rintro e w46 ⟨rfl, hb⟩; have n0_ := Aside0.mk (below_step (by repeat (first | (with_reducible first | exact HB.out | apply below_alloc | apply pw_below_drewN | apply below_drew1) | exact HB.out)) hb); clear HB; have HB := n0_; clear n0_; (try clear hb); (try clear hb2); (try clear hk); (try clear hi)) | (go_at_call 80; (with_reducible refine (float_Select.calls a2 a0 a1 t341 _ A37.out).mono ?_); clear A37; rintro e w' ⟨rfl, ⟨nd, rfl⟩⟩) | (go_at_call 47; (with_reducible refine (lathelaw02_n.calls t341 t342 _ A38.out).mono ?_); clear A38; rintro e w' ⟨rfl, ⟨nd, rfl⟩⟩) | (go_at_call 47; (with_reducible refine (lathelaw02_n.calls a2 t343 _ A39.out).mono ?_); clear A39; rintro e w' ⟨rfl, ⟨nd, rfl⟩⟩) | (go_at_call 47; (with_reducible refine (lathelaw02_n.calls a0 t344 _ A40.out).mono ?_); clear A40; rintro e w' ⟨rfl, ⟨nd, rfl⟩⟩) | (go_at_call 47; (with_reducible refine (lathelaw02_n.calls a1 t345 _ A41.out).mono ?_); clear A41; rintro e w' ⟨rfl, ⟨nd, rfl⟩⟩) | (go_at_call 81; (with_reducible refine (latheref02_Select.calls kj3 t343 t344 t345 t346 _ A42.out).mono ?_); clear A42; rintro e w47 ⟨rfl, hb⟩; have n0_ := Aside0.mk (below_step (by repeat (first | (with_reducible first | exact HB.out | apply below_alloc | apply pw_below_drewN | apply below_drew1) | exact HB.out)) hb); clear HB; have HB := n0_; clear n0_; (try clear hb); (try clear hb2); (try clear hk); (try clear hi)) | (go_at_call 50; (with_reducible refine (lathelaw02_works.calls  t347 _ A44.out).mono ?_); clear A44; rintro e w' ⟨rfl, ⟨nd, rfl⟩⟩))
              go_ret
              exact ⟨by first | rfl | (simp [errW_none, errW_some] <;> rfl) | (simp [*, errW_none, errW_some] <;> rfl), by repeat (first | (with_reducible first | exact HB.out | apply below_alloc | apply pw_below_drewN | apply below_drew1) | exact HB.out)⟩
            · rw [if_neg c43] at H
              have c43b0 : (t342 == t346) = false := beq_eq_false_iff_ne.mpr c43
              have c43b1 : (t342 != t346) = true := bne_iff_ne.mpr c43
              obtain rfl := Option.some.inj H
              go_wp2_with (first | ((with_reducible refine gate_callee (f := 74) rfl ?_); refine goesL_ (some 42) rfl rfl Try.func74 (by kernel_rfl) rfl #[.int .u32 a0, .int .u32 a1] rfl (by (try simp only [List.map_toArray, List.map_cons, List.map_nil]); first | done | rfl | (simp only [List.length_drop, List.length_take]; rfl)) ?_; (with_reducible refine (float_Equal.calls a0 a1 t334 _ A28.out).mono ?_); rintro e w' ⟨rfl, ⟨nd, rfl⟩⟩; refine ⟨_, rfl, ?_⟩) | ((with_reducible refine gate_callee (f := 47) rfl ?_); refine goesL_ (some 44) rfl rfl Try.func47 (by kernel_rfl) rfl #[.int .u32 a0] rfl (by (try simp only [List.map_toArray, List.map_cons, List.map_nil]); first | done | rfl | (simp only [List.length_drop, List.length_take]; rfl)) ?_; (with_reducible refine (lathelaw02_n.calls a0 t335 _ A29.out).mono ?_); rintro e w' ⟨rfl, ⟨nd, rfl⟩⟩; refine ⟨_, rfl, ?_⟩) | ((with_reducible refine gate_callee (f := 47) rfl ?_); refine goesL_ (some 46) rfl rfl Try.func47 (by kernel_rfl) rfl #[.int .u32 a1] rfl (by (try simp only [List.map_toArray, List.map_cons, List.map_nil]); first | done | rfl | (simp only [List.length_drop, List.length_take]; rfl)) ?_; (with_reducible refine (lathelaw02_n.calls a1 t336 _ A30.out).mono ?_); rintro e w' ⟨rfl, ⟨nd, rfl⟩⟩; refine ⟨_, rfl, ?_⟩) | ((with_reducible refine gate_callee (f := 78) rfl ?_); refine goesL_ (some 47) rfl rfl Try.func78 (by kernel_rfl) rfl #[.int .i64 t335, .int .i64 t336] rfl (by (try simp only [List.map_toArray, List.map_cons, List.map_nil]); first | done | rfl | (simp only [List.length_drop, List.length_take]; rfl)) ?_; (with_reducible refine (latheref02_Equal.calls t335 t336 t337 _ A31.out).mono ?_); rintro e w48 ⟨rfl, hb⟩; refine ⟨_, rfl, ?_⟩; have n0_ := Aside0.mk (below_step (by repeat (first | (with_reducible first | exact HB.out | apply below_alloc | apply pw_below_drewN | apply below_drew1) | exact HB.out)) hb); clear HB; have HB := n0_; clear n0_; (try clear hb); (try clear hb2); (try clear hk); (try clear hi)) | (go_at_call 58; (with_reducible refine (float_Finite.calls a0 t338 _ A33.out).mono ?_); clear A33; rintro e w' ⟨rfl, ⟨nd, rfl⟩⟩) | (go_at_call 47; (with_reducible refine (lathelaw02_n.calls a0 t339 _ A34.out).mono ?_); clear A34; rintro e w' ⟨rfl, ⟨nd, rfl⟩⟩) | (go_at_call 79; (with_reducible refine (latheref02_Finite.calls t339 t340 _ A35.out).mono ?_); clear A35; rintro e w49 ⟨rfl, hb⟩; have n0_ := Aside0.mk (below_step (by repeat (first | (with_reducible first | exact HB.out | apply below_alloc | apply pw_below_drewN | apply below_drew1) | exact HB.out)) hb); clear HB; have HB := n0_; clear n0_; (try clear hb); (try clear hb2); (try clear hk); (try clear hi)) | (go_at_call 80; (with_reducible refine (float_Select.calls a2 a0 a1 t341 _ A37.out).mono ?_); clear A37; rintro e w' ⟨rfl, ⟨nd, rfl⟩⟩) | (go_at_call 47; (with_reducible refine (lathelaw02_n.calls t341 t342 _ A38.out).mono ?_); clear A38; rintro e w' ⟨rfl, ⟨nd, rfl⟩⟩) | (go_at_call 47; (with_reducible refine (lathelaw02_n.calls a2 t343 _ A39.out).mono ?_); clear A39; rintro e w' ⟨rfl, ⟨nd, rfl⟩⟩) | (go_at_call 47; (with_reducible refine (lathelaw02_n.calls a0 t344 _ A40.out).mono ?_); clear A40; rintro e w' ⟨rfl, ⟨nd, rfl⟩⟩) | (go_at_call 47; (with_reducible refine (lathelaw02_n.calls a1 t345 _ A41.out).mono ?_); clear A41; rintro e w' ⟨rfl, ⟨nd, rfl⟩⟩) | (go_at_call 81; (with_reducible refine (latheref02_Select.calls kj3 t343 t344 t345 t346 _ A42.out).mono ?_); clear A42; rintro e w50 ⟨rfl, hb⟩; have n0_ := Aside0.mk (below_step (by repeat (first | (with_reducible first | exact HB.out | apply below_alloc | apply pw_below_drewN | apply below_drew1) | exact HB.out)) hb); clear HB; have HB := n0_; clear n0_; (try clear hb); (try clear hb2); (try clear hk); (try clear hi)))
              go_ret
              exact ⟨by first | rfl | (simp [errW_none, errW_some] <;> rfl) | (simp [*, errW_none, errW_some] <;> rfl), by repeat (first | (with_reducible first | exact HB.out | apply below_alloc | apply pw_below_drewN | apply below_drew1) | exact HB.out)⟩
          · rw [if_neg c36] at H
            have c36b0 : (t338 == t340) = false := by simpa using c36
            (try (have c36b1 : decide (t338 = t340) = false := by simpa using c36))
            (try (have c36b2 : (t338 == t340) = false := by simpa using c36))
            (try (have c36b3 : ¬ (t338 = t340) := by simpa using c36))
            clear c36
            obtain rfl := Option.some.inj H
            go_wp2_with (first | ((with_reducible refine gate_callee (f := 74) rfl ?_); refine goesL_ (some 42) rfl rfl Try.func74 (by kernel_rfl) rfl #[.int .u32 a0, .int .u32 a1] rfl (by (try simp only [List.map_toArray, List.map_cons, List.map_nil]); first | done | rfl | (simp only [List.length_drop, List.length_take]; rfl)) ?_; (with_reducible refine (float_Equal.calls a0 a1 t334 _ A28.out).mono ?_); rintro e w' ⟨rfl, ⟨nd, rfl⟩⟩; refine ⟨_, rfl, ?_⟩) | ((with_reducible refine gate_callee (f := 47) rfl ?_); refine goesL_ (some 44) rfl rfl Try.func47 (by kernel_rfl) rfl #[.int .u32 a0] rfl (by (try simp only [List.map_toArray, List.map_cons, List.map_nil]); first | done | rfl | (simp only [List.length_drop, List.length_take]; rfl)) ?_; (with_reducible refine (lathelaw02_n.calls a0 t335 _ A29.out).mono ?_); rintro e w' ⟨rfl, ⟨nd, rfl⟩⟩; refine ⟨_, rfl, ?_⟩) | ((with_reducible refine gate_callee (f := 47) rfl ?_); refine goesL_ (some 46) rfl rfl Try.func47 (by kernel_rfl) rfl #[.int .u32 a1] rfl (by (try simp only [List.map_toArray, List.map_cons, List.map_nil]); first | done | rfl | (simp only [List.length_drop, List.length_take]; rfl)) ?_; (with_reducible refine (lathelaw02_n.calls a1 t336 _ A30.out).mono ?_); rintro e w' ⟨rfl, ⟨nd, rfl⟩⟩; refine ⟨_, rfl, ?_⟩) | ((with_reducible refine gate_callee (f := 78) rfl ?_); refine goesL_ (some 47) rfl rfl Try.func78 (by kernel_rfl) rfl #[.int .i64 t335, .int .i64 t336] rfl (by (try simp only [List.map_toArray, List.map_cons, List.map_nil]); first | done | rfl | (simp only [List.length_drop, List.length_take]; rfl)) ?_; (with_reducible refine (latheref02_Equal.calls t335 t336 t337 _ A31.out).mono ?_); rintro e w51 ⟨rfl, hb⟩; refine ⟨_, rfl, ?_⟩; have n0_ := Aside0.mk (below_step (by repeat (first | (with_reducible first | exact HB.out | apply below_alloc | apply pw_below_drewN | apply below_drew1) | exact HB.out)) hb); clear HB; have HB := n0_; clear n0_; (try clear hb); (try clear hb2); (try clear hk); (try clear hi)) | (go_at_call 58; (with_reducible refine (float_Finite.calls a0 t338 _ A33.out).mono ?_); clear A33; rintro e w' ⟨rfl, ⟨nd, rfl⟩⟩) | (go_at_call 47; (with_reducible refine (lathelaw02_n.calls a0 t339 _ A34.out).mono ?_); clear A34; rintro e w' ⟨rfl, ⟨nd, rfl⟩⟩) | (go_at_call 79; (with_reducible refine (latheref02_Finite.calls t339 t340 _ A35.out).mono ?_); clear A35; rintro e w52 ⟨rfl, hb⟩; have n0_ := Aside0.mk (below_step (by repeat (first | (with_reducible first | exact HB.out | apply below_alloc | apply pw_below_drewN | apply below_drew1) | exact HB.out)) hb); clear HB; have HB := n0_; clear n0_; (try clear hb); (try clear hb2); (try clear hk); (try clear hi)))
            go_ret
            exact ⟨by first | rfl | (simp [errW_none, errW_some] <;> rfl) | (simp [*, errW_none, errW_some] <;> rfl), by repeat (first | (with_reducible first | exact HB.out | apply below_alloc | apply pw_below_drewN | apply below_drew1) | exact HB.out)⟩
        · rw [if_neg c32] at H
          have c32b0 : (t334 == t337) = false := by simpa using c32
          (try (have c32b1 : decide (t334 = t337) = false := by simpa using c32))
          (try (have c32b2 : (t334 == t337) = false := by simpa using c32))
          (try (have c32b3 : ¬ (t334 = t337) := by simpa using c32))
          clear c32
          obtain rfl := Option.some.inj H
          go_wp2_with (first | ((with_reducible refine gate_callee (f := 74) rfl ?_); refine goesL_ (some 42) rfl rfl Try.func74 (by kernel_rfl) rfl #[.int .u32 a0, .int .u32 a1] rfl (by (try simp only [List.map_toArray, List.map_cons, List.map_nil]); first | done | rfl | (simp only [List.length_drop, List.length_take]; rfl)) ?_; (with_reducible refine (float_Equal.calls a0 a1 t334 _ A28.out).mono ?_); rintro e w' ⟨rfl, ⟨nd, rfl⟩⟩; refine ⟨_, rfl, ?_⟩) | ((with_reducible refine gate_callee (f := 47) rfl ?_); refine goesL_ (some 44) rfl rfl Try.func47 (by kernel_rfl) rfl #[.int .u32 a0] rfl (by (try simp only [List.map_toArray, List.map_cons, List.map_nil]); first | done | rfl | (simp only [List.length_drop, List.length_take]; rfl)) ?_; (with_reducible refine (lathelaw02_n.calls a0 t335 _ A29.out).mono ?_); rintro e w' ⟨rfl, ⟨nd, rfl⟩⟩; refine ⟨_, rfl, ?_⟩) | ((with_reducible refine gate_callee (f := 47) rfl ?_); refine goesL_ (some 46) rfl rfl Try.func47 (by kernel_rfl) rfl #[.int .u32 a1] rfl (by (try simp only [List.map_toArray, List.map_cons, List.map_nil]); first | done | rfl | (simp only [List.length_drop, List.length_take]; rfl)) ?_; (with_reducible refine (lathelaw02_n.calls a1 t336 _ A30.out).mono ?_); rintro e w' ⟨rfl, ⟨nd, rfl⟩⟩; refine ⟨_, rfl, ?_⟩) | ((with_reducible refine gate_callee (f := 78) rfl ?_); refine goesL_ (some 47) rfl rfl Try.func78 (by kernel_rfl) rfl #[.int .i64 t335, .int .i64 t336] rfl (by (try simp only [List.map_toArray, List.map_cons, List.map_nil]); first | done | rfl | (simp only [List.length_drop, List.length_take]; rfl)) ?_; (with_reducible refine (latheref02_Equal.calls t335 t336 t337 _ A31.out).mono ?_); rintro e w53 ⟨rfl, hb⟩; refine ⟨_, rfl, ?_⟩; have n0_ := Aside0.mk (below_step (by repeat (first | (with_reducible first | exact HB.out | apply below_alloc | apply pw_below_drewN | apply below_drew1) | exact HB.out)) hb); clear HB; have HB := n0_; clear n0_; (try clear hb); (try clear hb2); (try clear hk); (try clear hi)))
          go_ret
          exact ⟨by first | rfl | (simp [errW_none, errW_some] <;> rfl) | (simp [*, errW_none, errW_some] <;> rfl), by repeat (first | (with_reducible first | exact HB.out | apply below_alloc | apply pw_below_drewN | apply below_drew1) | exact HB.out)⟩

/-- THE ONE PURE STATEMENT of lathelaw02_FloatOrders: yours. -/
def lathelaw02_FloatOrders.Pure : Prop := ∀ (a0 : Int) (a1 : Int) (a2 : Int), (Lit.int .u32 a0).wf = true → (Lit.int .u32 a1).wf = true → (Lit.int .u32 a2).wf = true → ∃ k, lathelaw02_FloatOrders.f k a0 a1 a2 = some true
theorem lathelaw02_FloatOrders.walk (P : lathelaw02_FloatOrders.Pure) (a0 : Int) (a1 : Int) (a2 : Int) (w : World) (w0 : (Lit.int .u32 a0).wf = true) (w1 : (Lit.int .u32 a1).wf = true) (w2 : (Lit.int .u32 a2).wf = true) :
    Calls Try.prog 21 #[.int .u32 a0, .int .u32 a1, .int .u32 a2] w fun e w' => e = .returned (.bool true) ∧ Below w.heap.size w w' := by
  obtain ⟨k, h⟩ := P a0 a1 a2 w0 w1 w2
  refine (lathelaw02_FloatOrders.calls k a0 a1 a2 true w h).mono ?_
  rintro e w' ⟨rfl, hd⟩
  exact ⟨rfl, hd⟩

/-! ### latheref02_FromInt: function 30 -/
def latheref02_FromInt.f (k : Nat) (a0 : Int) : Option (Int) := if a0 < 0 then ((latheref02_Round.f k true (IntKind.u64.wrap ((IntKind.u64.wrap (wrap64 (-(wrap64 (a0 + 1))))) + 1)) 0).bind fun t348 => (some t348)) else ((latheref02_Round.f k false (IntKind.u64.wrap (a0)) 0).bind fun t349 => (some t349))
theorem latheref02_FromInt.mono : ∀ a0 k, LeO (latheref02_FromInt.f k a0) (latheref02_FromInt.f (k + 1) a0) := by
  intro a0 k
  unfold latheref02_FromInt.f
  repeat' first
      | (with_reducible exact latheref02_Round.mono _ _ _ _)
      | (with_reducible exact LeO.refl _)
      | (with_reducible exact LeO.none _)
      | (with_reducible refine LeO.ite ?_ ?_)
      | (with_reducible refine LeO.bind ?_ (fun _ => ?_))
      | exact latheref02_Round.mono _ _ _ _
      | exact LeO.none _
      | refine LeO.ite ?_ ?_
      | refine LeO.bind ?_ (fun _ => ?_)
set_option maxHeartbeats 8000000 in
set_option maxRecDepth 100000 in
theorem latheref02_FromInt.calls (k : Nat) (a0 : Int) (r : Int) (w : World) (h : latheref02_FromInt.f k a0 = some r) :
    Calls Try.prog 30 #[.int .i64 a0] w fun e w' => e = .returned (.int .i64 r) ∧ Below w.heap.size w w' := by
  have HB := Aside0.mk (Below.refl w.heap.size w)
  have H : (if a0 < 0 then ((latheref02_Round.f k true (IntKind.u64.wrap ((IntKind.u64.wrap (wrap64 (-(wrap64 (a0 + 1))))) + 1)) 0).bind fun t348 => (some t348)) else ((latheref02_Round.f k false (IntKind.u64.wrap (a0)) 0).bind fun t349 => (some t349))) = some r := h
  clear h
  by_cases c2 : a0 < 0
  · rw [if_pos c2] at H
    have c2b0 : decide (a0 < 0) = true := decide_eq_true c2
    clear c2
    replace H := Option.bind_eq_some_iff.mp H
    obtain ⟨t348, A30, H⟩ := H
    replace H : (some t348) = some r := H
    have A3 := Aside0.mk A30
    clear A30
    obtain rfl := Option.some.inj H
    go_enter Try.func30, Try.ntmps30
    go_wp2_with (first | ((with_reducible refine gate_callee (f := 91) rfl ?_); refine goesL_ (some 10) rfl rfl Try.func91 (by kernel_rfl) rfl #[.bool true, .int .u64 (IntKind.u64.wrap ((IntKind.u64.wrap (wrap64 (-(wrap64 (a0 + 1))))) + 1)), .int .i64 0] rfl (by (try simp only [List.map_toArray, List.map_cons, List.map_nil]); first | done | rfl | (simp only [List.length_drop, List.length_take]; rfl)) ?_; (with_reducible refine (latheref02_Round.calls k true (IntKind.u64.wrap ((IntKind.u64.wrap (wrap64 (-(wrap64 (a0 + 1))))) + 1)) 0 t348 _ A3.out).mono ?_); rintro e w4 ⟨rfl, hb⟩; refine ⟨_, rfl, ?_⟩; have n0_ := Aside0.mk (below_step (by repeat (first | (with_reducible first | exact HB.out | apply below_alloc | apply pw_below_drewN | apply below_drew1) | exact HB.out)) hb); clear HB; have HB := n0_; clear n0_; (try clear hb); (try clear hb2); (try clear hk); (try clear hi)))
    go_ret
    exact ⟨by first | rfl | (simp [errW_none, errW_some] <;> rfl) | (simp [*, errW_none, errW_some] <;> rfl), by repeat (first | (with_reducible first | exact HB.out | apply below_alloc | apply pw_below_drewN | apply below_drew1) | exact HB.out)⟩
  · rw [if_neg c2] at H
    have c2b0 : decide (a0 < 0) = false := decide_eq_false c2
    clear c2
    replace H := Option.bind_eq_some_iff.mp H
    obtain ⟨t349, A50, H⟩ := H
    replace H : (some t349) = some r := H
    have A5 := Aside0.mk A50
    clear A50
    obtain rfl := Option.some.inj H
    go_enter Try.func30, Try.ntmps30
    go_wp2_with (first | ((with_reducible refine gate_callee (f := 91) rfl ?_); refine goesL_ (some 13) rfl rfl Try.func91 (by kernel_rfl) rfl #[.bool false, .int .u64 (IntKind.u64.wrap (a0)), .int .i64 0] rfl (by (try simp only [List.map_toArray, List.map_cons, List.map_nil]); first | done | rfl | (simp only [List.length_drop, List.length_take]; rfl)) ?_; (with_reducible refine (latheref02_Round.calls k false (IntKind.u64.wrap (a0)) 0 t349 _ A5.out).mono ?_); rintro e w6 ⟨rfl, hb⟩; refine ⟨_, rfl, ?_⟩; have n0_ := Aside0.mk (below_step (by repeat (first | (with_reducible first | exact HB.out | apply below_alloc | apply pw_below_drewN | apply below_drew1) | exact HB.out)) hb); clear HB; have HB := n0_; clear n0_; (try clear hb); (try clear hb2); (try clear hk); (try clear hi)))
    go_ret
    exact ⟨by first | rfl | (simp [errW_none, errW_some] <;> rfl) | (simp [*, errW_none, errW_some] <;> rfl), by repeat (first | (with_reducible first | exact HB.out | apply below_alloc | apply pw_below_drewN | apply below_drew1) | exact HB.out)⟩

-- NOT PRINTED: function 112 (bits_Len32)

-- NOT PRINTED: function 113 (bits_Len64)

/-! ### bits_Len: function 95 (given) -/
def bits_Len.f (a0 : Int) : Option (Int) := if 0 ≤ a0 ∧ a0 ≤ 18446744073709551615 then some (Lib.bitLen a0.toNat : Int) else none
theorem bits_Len.calls (a0 : Int) (r : Int) (w : World) (h : bits_Len.f a0 = some r) :
    Calls Try.prog 95 #[.int .u64 a0] w fun e w' => e = .returned (.int .i64 r) ∧ Drawn0 w w' := by
  unfold bits_Len.f at h
  split at h
  case isFalse => cases h
  rename_i g
  have h := Option.some.inj h
  subst h
  exact (Try.bits_Len a0 w g.1 g.2).mono fun e w' h => ⟨h.1, h.2 ▸ Drawn0.refl _⟩


/-! ### float_Power: function 82 (given) -/
def float_Power.f (a0 : Int) (a1 : Int) : Option (Int) := if 0 ≤ a0 ∧ a1 ≤ 9223372036854775807 then some (Lathe.fpow a0.toNat a1 : Nat) else none
theorem float_Power.calls (a0 : Int) (a1 : Int) (r : Int) (w : World) (h : float_Power.f a0 a1 = some r) :
    Calls Try.prog 82 #[.int .u32 a0, .int .i64 a1] w fun e w' => e = .returned (.int .u32 r) ∧ Drawn0 w w' := by
  unfold float_Power.f at h
  split at h
  case isFalse => cases h
  rename_i g
  have h := Option.some.inj h
  subst h
  exact Pow.Power a0 a1 w g.2 g.1


/-! ### latheref02_Power: function 83 -/
def latheref02_Power.l0 : Nat → Int → Int → Int → Int → Option (Int)
  | 0, _, _, _, _ => none
  | k + 1, x0, x1, x5, x6 => if x6 ≥ 0 then ((latheref02_Mul.f k x5 x5).bind fun t352 => (if 0 ≤ (IntKind.u64.wrap (x6)) then (if (Go.bits .and .i64 (shr .i64 x1 (IntKind.u64.wrap (x6))) 1) = 1 then ((latheref02_Mul.f k t352 x0).bind fun t353 => (latheref02_Power.l0 k x0 x1 t353 (wrap64 (x6 - 1)))) else (latheref02_Power.l0 k x0 x1 t352 (wrap64 (x6 - 1)))) else (none))) else (some x5)
def latheref02_Power.f (k : Nat) (a0 : Int) (a1 : Int) : Option (Int) := if a1 < 1 then (some 1065353216) else ((latheref02_Canon.f a0).bind fun t350 => ((latheref02_length.f k (IntKind.u64.wrap (a1))).bind fun t351 => (latheref02_Power.l0 k a0 a1 t350 (wrap64 (t351 - 2)))))
theorem latheref02_Power.mono_l : ∀ k, (∀ y0 y1 y2 y3, LeO (latheref02_Power.l0 k y0 y1 y2 y3) (latheref02_Power.l0 (k + 1) y0 y1 y2 y3))
  | 0 => fun _ _ _ _ r h => by simp [latheref02_Power.l0] at h
  | k + 1 => by
    have ih0 := latheref02_Power.mono_l k
    · intro y0 y1 y2 y3
      unfold latheref02_Power.l0
      repeat' first
      | (with_reducible exact ih0 _ _ _ _)
      | (with_reducible exact latheref02_Mul.mono _ _ _)
      | (with_reducible exact latheref02_length.mono _ _)
      | (with_reducible exact LeO.refl _)
      | (with_reducible exact LeO.none _)
      | (with_reducible refine LeO.ite ?_ ?_)
      | (with_reducible refine LeO.bind ?_ (fun _ => ?_))
      | exact ih0 _ _ _ _
      | exact latheref02_Mul.mono _ _ _
      | exact latheref02_length.mono _ _
      | exact LeO.none _
      | refine LeO.ite ?_ ?_
      | refine LeO.bind ?_ (fun _ => ?_)
theorem latheref02_Power.mono : ∀ a0 a1 k, LeO (latheref02_Power.f k a0 a1) (latheref02_Power.f (k + 1) a0 a1) := by
  intro a0 a1 k
  have ih0 := latheref02_Power.mono_l k
  unfold latheref02_Power.f
  repeat' first
      | (with_reducible exact ih0 _ _ _ _)
      | (with_reducible exact latheref02_Mul.mono _ _ _)
      | (with_reducible exact latheref02_length.mono _ _)
      | (with_reducible exact LeO.refl _)
      | (with_reducible exact LeO.none _)
      | (with_reducible refine LeO.ite ?_ ?_)
      | (with_reducible refine LeO.bind ?_ (fun _ => ?_))
      | exact ih0 _ _ _ _
      | exact latheref02_Mul.mono _ _ _
      | exact latheref02_length.mono _ _
      | exact LeO.none _
      | refine LeO.ite ?_ ?_
      | refine LeO.bind ?_ (fun _ => ?_)
set_option maxHeartbeats 8000000 in
set_option maxRecDepth 100000 in
theorem latheref02_Power.calls (k : Nat) (a0 : Int) (a1 : Int) (r : Int) (w : World) (h : latheref02_Power.f k a0 a1 = some r) :
    Calls Try.prog 83 #[.int .i64 a0, .int .i64 a1] w fun e w' => e = .returned (.int .i64 r) ∧ Below w.heap.size w w' := by
  have HB := Aside0.mk (Below.refl w.heap.size w)
  have H : (if a1 < 1 then (some 1065353216) else ((latheref02_Canon.f a0).bind fun t350 => ((latheref02_length.f k (IntKind.u64.wrap (a1))).bind fun t351 => (latheref02_Power.l0 k a0 a1 t350 (wrap64 (t351 - 2)))))) = some r := h
  clear h
  by_cases c3 : a1 < 1
  · rw [if_pos c3] at H
    have c3b0 : decide (a1 < 1) = true := decide_eq_true c3
    clear c3
    obtain rfl := Option.some.inj H
    go_enter Try.func83, Try.ntmps83
    go_wp2
    go_ret
    exact ⟨by first | rfl | (simp [errW_none, errW_some] <;> rfl) | (simp [*, errW_none, errW_some] <;> rfl), by repeat (first | (with_reducible first | exact HB.out | apply below_alloc | apply pw_below_drewN | apply below_drew1) | exact HB.out)⟩
  · rw [if_neg c3] at H
    have c3b0 : decide (a1 < 1) = false := decide_eq_false c3
    clear c3
    replace H := Option.bind_eq_some_iff.mp H
    obtain ⟨t350, A40, H⟩ := H
    replace H : ((latheref02_length.f k (IntKind.u64.wrap (a1))).bind fun t351 => (latheref02_Power.l0 k a0 a1 t350 (wrap64 (t351 - 2)))) = some r := H
    have A4 := Aside0.mk A40
    clear A40
    replace H := Option.bind_eq_some_iff.mp H
    obtain ⟨t351, A50, H⟩ := H
    replace H : (latheref02_Power.l0 k a0 a1 t350 (wrap64 (t351 - 2))) = some r := H
    have A5 := Aside0.mk A50
    clear A50
    have H' := Aside0.mk H
    clear H
    go_enter Try.func83, Try.ntmps83
    go_wp2_with (first | ((with_reducible refine gate_callee (f := 107) rfl ?_); refine goesL_ (some 10) rfl rfl Try.func107 (by kernel_rfl) rfl #[.int .i64 a0] rfl (by (try simp only [List.map_toArray, List.map_cons, List.map_nil]); first | done | rfl | (simp only [List.length_drop, List.length_take]; rfl)) ?_; (with_reducible refine (latheref02_Canon.calls a0 t350 _ A4.out).mono ?_); rintro e w6 ⟨rfl, hb⟩; refine ⟨_, rfl, ?_⟩; have n0_ := Aside0.mk (below_step (by repeat (first | (with_reducible first | exact HB.out | apply below_alloc | apply pw_below_drewN | apply below_drew1) | exact HB.out)) hb); clear HB; have HB := n0_; clear n0_; (try clear hb); (try clear hb2); (try clear hk); (try clear hi)) | ((with_reducible refine gate_callee (f := 108) rfl ?_); refine goesL_ (some 13) rfl rfl Try.func108 (by kernel_rfl) rfl #[.int .u64 (IntKind.u64.wrap (a1))] rfl (by (try simp only [List.map_toArray, List.map_cons, List.map_nil]); first | done | rfl | (simp only [List.length_drop, List.length_take]; rfl)) ?_; (with_reducible refine (latheref02_length.calls k (IntKind.u64.wrap (a1)) t351 _ A5.out).mono ?_); rintro e w' ⟨rfl, ⟨nd, rfl⟩⟩; refine ⟨_, rfl, ?_⟩))
    go_loopg [5, 6] k (fun kq v5 v6 w' => ∃ (x5_1 : Int) (x6_1 : Int), v5 = .int .i64 x5_1 ∧ v6 = .int .i64 x6_1 ∧ Aside0 (latheref02_Power.l0 kq a0 a1 x5_1 x6_1 = some r) ∧ Aside0 (kq ≤ k) ∧ Aside0 (Below w.heap.size w w'))
    case atStart => exact ⟨(t350), (wrap64 (t351 - 2)), (by first | rfl | (simp; done) | (simp [*]; done)), (by first | rfl | (simp; done) | (simp [*]; done)), H', ⟨Nat.le_refl _⟩, ⟨by repeat (first | (with_reducible first | exact HB.out | apply below_alloc | apply pw_below_drewN | apply below_drew1) | exact HB.out)⟩⟩
    case round =>
      clear H'
      try clear c1
      try clear p2
      try clear c3
      try clear c3b0
      try clear p6
      obtain ⟨x5_1, x6_1, rfl, rfl, HA, HK1, HB⟩ := hrel
      cases gk with
      | zero => exact absurd HA.out (by simp [latheref02_Power.l0])
      | succ k1 =>
        have H := HA.out
        clear HA
        simp only [latheref02_Power.l0] at H
        by_cases c7 : x6_1 ≥ 0
        · rw [if_pos c7] at H
          have c7b0 : decide (0 ≤ x6_1) = true := decide_eq_true c7
          clear c7
          replace H := Option.bind_eq_some_iff.mp H
          obtain ⟨t352, A80, H⟩ := H
          replace H : (if 0 ≤ (IntKind.u64.wrap (x6_1)) then (if (Go.bits .and .i64 (shr .i64 a1 (IntKind.u64.wrap (x6_1))) 1) = 1 then ((latheref02_Mul.f k1 t352 a0).bind fun t353 => (latheref02_Power.l0 k1 a0 a1 t353 (wrap64 (x6_1 - 1)))) else (latheref02_Power.l0 k1 a0 a1 t352 (wrap64 (x6_1 - 1)))) else (none)) = some r := H
          have A8 := Aside0.mk A80
          clear A80
          obtain ⟨ji9, hji9⟩ : ∃ j_ : Int, (IntKind.u64.wrap (x6_1)) = j_ := ⟨_, rfl⟩
          replace H : (if 0 ≤ (ji9) then (if (Go.bits .and .i64 (shr .i64 a1 (ji9)) 1) = 1 then ((latheref02_Mul.f k1 t352 a0).bind fun t353 => (latheref02_Power.l0 k1 a0 a1 t353 (wrap64 (x6_1 - 1)))) else (latheref02_Power.l0 k1 a0 a1 t352 (wrap64 (x6_1 - 1)))) else (none)) = some r := by first | (rw [hji9] at H; exact H) | (simp only [hji9] at H ⊢; exact H)
          (try rw [hji9] at A8)
          by_cases c10 : 0 ≤ (ji9)
          · rw [if_pos c10] at H
            have c10b0 := eq_true c10
            have c10b1 : decide (0 ≤ (ji9)) = true := decide_eq_true c10
            clear c10
            obtain ⟨ji11, hji11⟩ : ∃ j_ : Int, (shr .i64 a1 (ji9)) = j_ := ⟨_, rfl⟩
            replace H : (if (Go.bits .and .i64 (ji11) 1) = 1 then ((latheref02_Mul.f k1 t352 a0).bind fun t353 => (latheref02_Power.l0 k1 a0 a1 t353 (wrap64 (x6_1 - 1)))) else (latheref02_Power.l0 k1 a0 a1 t352 (wrap64 (x6_1 - 1)))) = some r := by first | (rw [hji11] at H; exact H) | (simp only [hji11] at H ⊢; exact H)
            (try rw [hji11] at A8)
            have hji11_ : (a1 / 2 ^ min (ji9).toNat 64) = ji11 := hji11
            have hji11z : (ji9) ≤ 64 → (a1 / 2 ^ (ji9).toNat) = ji11 := shr_small hji11
            by_cases c12 : (Go.bits .and .i64 (ji11) 1) = 1
            · rw [if_pos c12] at H
              have c12b0 : ((Go.bits .and .i64 (ji11) 1) == 1) = true := beq_iff_eq.mpr c12
              have c12b1 : ((Go.bits .and .i64 (ji11) 1) != 1) = false := bne_eq_false_iff_eq.mpr c12
              clear c12
              replace H := Option.bind_eq_some_iff.mp H
              obtain ⟨t353, A130, H⟩ := H
              replace H : (latheref02_Power.l0 k1 a0 a1 t353 (wrap64 (x6_1 - 1))) = some r := H
              have A13 := Aside0.mk A130
              clear A130
              have H' := Aside0.mk H
              clear H
              go_wp2_with (first | ((with_reducible refine gate_callee (f := 49) rfl ?_); refine goesL_ (some 21) rfl rfl Try.func49 (by kernel_rfl) rfl #[.int .i64 x5_1, .int .i64 x5_1] rfl (by (try simp only [List.map_toArray, List.map_cons, List.map_nil]); first | done | rfl | (simp only [List.length_drop, List.length_take]; rfl)) ?_; (with_reducible refine (latheref02_Mul.calls k1 x5_1 x5_1 t352 _ A8.out).mono ?_); rintro e w14 ⟨rfl, hb⟩; refine ⟨_, rfl, ?_⟩; have n0_ := Aside0.mk (below_step (by repeat (first | (with_reducible first | exact HB.out | apply below_alloc | apply pw_below_drewN | apply below_drew1) | exact HB.out)) hb); clear HB; have HB := n0_; clear n0_; (try clear hb); (try clear hb2); (try clear hk); (try clear hi)) | ((with_reducible refine gate_callee (f := 49) rfl ?_); refine goesL_ (some 30) rfl rfl Try.func49 (by kernel_rfl) rfl #[.int .i64 t352, .int .i64 a0] rfl (by (try simp only [List.map_toArray, List.map_cons, List.map_nil]); first | done | rfl | (simp only [List.length_drop, List.length_take]; rfl)) ?_; (with_reducible refine (latheref02_Mul.calls k1 t352 a0 t353 _ A13.out).mono ?_); rintro e w15 ⟨rfl, hb⟩; refine ⟨_, rfl, ?_⟩; have n0_ := Aside0.mk (below_step (by repeat (first | (with_reducible first | exact HB.out | apply below_alloc | apply pw_below_drewN | apply below_drew1) | exact HB.out)) hb); clear HB; have HB := n0_; clear n0_; (try clear hb); (try clear hb2); (try clear hk); (try clear hi)))
              go_roundg k1
              case measure => have := HK1.out; omega
              case rel => exact ⟨(t353), (wrap64 (x6_1 - 1)), (by first | rfl | (simp; done) | (simp [*]; done)), (by first | rfl | (simp; done) | (simp [*]; done)), H', ⟨by have := HK1.out; omega⟩, ⟨by repeat (first | (with_reducible first | exact HB.out | apply below_alloc | apply pw_below_drewN | apply below_drew1) | exact HB.out)⟩⟩
            · rw [if_neg c12] at H
              have c12b0 : ((Go.bits .and .i64 (ji11) 1) == 1) = false := beq_eq_false_iff_ne.mpr c12
              have c12b1 : ((Go.bits .and .i64 (ji11) 1) != 1) = true := bne_iff_ne.mpr c12
              have H' := Aside0.mk H
              clear H
              go_wp2_with (first | ((with_reducible refine gate_callee (f := 49) rfl ?_); refine goesL_ (some 21) rfl rfl Try.func49 (by kernel_rfl) rfl #[.int .i64 x5_1, .int .i64 x5_1] rfl (by (try simp only [List.map_toArray, List.map_cons, List.map_nil]); first | done | rfl | (simp only [List.length_drop, List.length_take]; rfl)) ?_; (with_reducible refine (latheref02_Mul.calls k1 x5_1 x5_1 t352 _ A8.out).mono ?_); rintro e w16 ⟨rfl, hb⟩; refine ⟨_, rfl, ?_⟩; have n0_ := Aside0.mk (below_step (by repeat (first | (with_reducible first | exact HB.out | apply below_alloc | apply pw_below_drewN | apply below_drew1) | exact HB.out)) hb); clear HB; have HB := n0_; clear n0_; (try clear hb); (try clear hb2); (try clear hk); (try clear hi)))
              go_roundg k1
              case measure => have := HK1.out; omega
              case rel => exact ⟨(t352), (wrap64 (x6_1 - 1)), (by first | rfl | (simp; done) | (simp [*]; done)), (by first | rfl | (simp; done) | (simp [*]; done)), H', ⟨by have := HK1.out; omega⟩, ⟨by repeat (first | (with_reducible first | exact HB.out | apply below_alloc | apply pw_below_drewN | apply below_drew1) | exact HB.out)⟩⟩
          · rw [if_neg c10] at H
            exact absurd H (by simp)
        · rw [if_neg c7] at H
          have c7b0 : decide (0 ≤ x6_1) = false := decide_eq_false c7
          clear c7
          obtain rfl := Option.some.inj H
          go_wp2
          go_ret
          exact ⟨by first | rfl | (simp [errW_none, errW_some] <;> rfl) | (simp [*, errW_none, errW_some] <;> rfl), by repeat (first | (with_reducible first | exact HB.out | apply below_alloc | apply pw_below_drewN | apply below_drew1) | exact HB.out)⟩

end Go.Proofs.Ytcegmbplgghjnaa.PF
