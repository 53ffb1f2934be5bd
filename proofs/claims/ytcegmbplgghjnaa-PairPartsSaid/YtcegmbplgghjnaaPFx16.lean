/- The functions of the program that a statement reaches, as plain functions, and that the machine's calls do what these say. No condition. (Printed by a program.) -/
import Derived.Test.YtcegmbplgghjnaaPFx0
import Derived.Test.YtcegmbplgghjnaaPFx2
namespace Go.Proofs.Ytcegmbplgghjnaa.PF
open Go.RowKit Go.Proofs.YtcegmbplgghjnaaW.PrintWords Go.Proofs.YtcegmbplgghjnaaW.PrintLast Go.Proofs.YtcegmbplgghjnaaW.PrintMore
attribute [local go_sem] max2_int min2_int max_two min_two max_three min_three max_four min_four   -- for this text's walks alone
set_option linter.unusedVariables false
set_option linter.unusedSimpArgs false

/-! ### lathelaw02_parts: function 57 -/
def lathelaw02_parts.f (a0 : Int) : Option (Int × Int) := (lathelaw02_n.f a0).bind fun t413 => ((lathelaw02_n.f a0).bind fun t414 => (if (Go.bits .and .i64 (t413 / 8388608) 255) > 0 then ((lathelaw02_n.f a0).bind fun t415 => (if (t415 / 2147483648) = 1 then (some (wrap64 (-(wrap64 ((Go.bits .and .i64 t414 8388607) + 8388608))), wrap64 ((mx (Go.bits .and .i64 (t413 / 8388608) 255) 1) - 150))) else (some (wrap64 ((Go.bits .and .i64 t414 8388607) + 8388608), wrap64 ((mx (Go.bits .and .i64 (t413 / 8388608) 255) 1) - 150))))) else ((lathelaw02_n.f a0).bind fun t416 => (if (t416 / 2147483648) = 1 then (some (wrap64 (-(Go.bits .and .i64 t414 8388607)), wrap64 ((mx (Go.bits .and .i64 (t413 / 8388608) 255) 1) - 150))) else (some (Go.bits .and .i64 t414 8388607, wrap64 ((mx (Go.bits .and .i64 (t413 / 8388608) 255) 1) - 150)))))))
set_option maxHeartbeats 8000000 in
set_option maxRecDepth 100000 in
theorem lathelaw02_parts.calls (a0 : Int) (r1 : Int) (r2 : Int) (w : World) (h : lathelaw02_parts.f a0 = some (r1, r2)) :
    Calls Try.prog 57 #[.int .u32 a0] w fun e w' => e = .returned (.tuple #[.int .i64 r1, .int .i64 r2]) ∧ Below w.heap.size w w' := by
  have HB := Aside0.mk (Below.refl w.heap.size w)
  have H : ((lathelaw02_n.f a0).bind fun t413 => ((lathelaw02_n.f a0).bind fun t414 => (if (Go.bits .and .i64 (t413 / 8388608) 255) > 0 then ((lathelaw02_n.f a0).bind fun t415 => (if (t415 / 2147483648) = 1 then (some (wrap64 (-(wrap64 ((Go.bits .and .i64 t414 8388607) + 8388608))), wrap64 ((mx (Go.bits .and .i64 (t413 / 8388608) 255) 1) - 150))) else (some (wrap64 ((Go.bits .and .i64 t414 8388607) + 8388608), wrap64 ((mx (Go.bits .and .i64 (t413 / 8388608) 255) 1) - 150))))) else ((lathelaw02_n.f a0).bind fun t416 => (if (t416 / 2147483648) = 1 then (some (wrap64 (-(Go.bits .and .i64 t414 8388607)), wrap64 ((mx (Go.bits .and .i64 (t413 / 8388608) 255) 1) - 150))) else (some (Go.bits .and .i64 t414 8388607, wrap64 ((mx (Go.bits .and .i64 (t413 / 8388608) 255) 1) - 150)))))))) = some (r1, r2) := h
  clear h
  replace H := Option.bind_eq_some_iff.mp H
  obtain ⟨t413, A20, H⟩ := H
  replace H : ((lathelaw02_n.f a0).bind fun t414 => (if (Go.bits .and .i64 (t413 / 8388608) 255) > 0 then ((lathelaw02_n.f a0).bind fun t415 => (if (t415 / 2147483648) = 1 then (some (wrap64 (-(wrap64 ((Go.bits .and .i64 t414 8388607) + 8388608))), wrap64 ((mx (Go.bits .and .i64 (t413 / 8388608) 255) 1) - 150))) else (some (wrap64 ((Go.bits .and .i64 t414 8388607) + 8388608), wrap64 ((mx (Go.bits .and .i64 (t413 / 8388608) 255) 1) - 150))))) else ((lathelaw02_n.f a0).bind fun t416 => (if (t416 / 2147483648) = 1 then (some (wrap64 (-(Go.bits .and .i64 t414 8388607)), wrap64 ((mx (Go.bits .and .i64 (t413 / 8388608) 255) 1) - 150))) else (some (Go.bits .and .i64 t414 8388607, wrap64 ((mx (Go.bits .and .i64 (t413 / 8388608) 255) 1) - 150))))))) = some (r1, r2) := H
  have A2 := Aside0.mk A20
  clear A20
  replace H := Option.bind_eq_some_iff.mp H
  obtain ⟨t414, A30, H⟩ := H
  replace H : (if (Go.bits .and .i64 (t413 / 8388608) 255) > 0 then ((lathelaw02_n.f a0).bind fun t415 => (if (t415 / 2147483648) = 1 then (some (wrap64 (-(wrap64 ((Go.bits .and .i64 t414 8388607) + 8388608))), wrap64 ((mx (Go.bits .and .i64 (t413 / 8388608) 255) 1) - 150))) else (some (wrap64 ((Go.bits .and .i64 t414 8388607) + 8388608), wrap64 ((mx (Go.bits .and .i64 (t413 / 8388608) 255) 1) - 150))))) else ((lathelaw02_n.f a0).bind fun t416 => (if (t416 / 2147483648) = 1 then (some (wrap64 (-(Go.bits .and .i64 t414 8388607)), wrap64 ((mx (Go.bits .and .i64 (t413 / 8388608) 255) 1) - 150))) else (some (Go.bits .and .i64 t414 8388607, wrap64 ((mx (Go.bits .and .i64 (t413 / 8388608) 255) 1) - 150)))))) = some (r1, r2) := H
  have A3 := Aside0.mk A30
  clear A30
  by_cases c4 : (Go.bits .and .i64 (t413 / 8388608) 255) > 0
  · rw [if_pos c4] at H
    have c4b0 : decide (0 < (Go.bits .and .i64 (t413 / 8388608) 255)) = true := decide_eq_true c4
    clear c4
    obtain ⟨ji5, hji5⟩ : ∃ j_ : Int, (mx (Go.bits .and .i64 (t413 / 8388608) 255) 1) = j_ := ⟨_, rfl⟩
    replace H : ((lathelaw02_n.f a0).bind fun t415 => (if (t415 / 2147483648) = 1 then (some (wrap64 (-(wrap64 ((Go.bits .and .i64 t414 8388607) + 8388608))), wrap64 ((ji5) - 150))) else (some (wrap64 ((Go.bits .and .i64 t414 8388607) + 8388608), wrap64 ((ji5) - 150))))) = some (r1, r2) := by first | (rw [hji5] at H; exact H) | (simp only [hji5] at H ⊢; exact H)
    (try rw [hji5] at A2)
    (try rw [hji5] at A3)
    (try (have hji5l : 1 ≤ ji5 := by (rw [← hji5]; unfold mx; (repeat' split) <;> omega)))
    (try (have hji5m : 0 ≤ ji5 := by omega))
    have hji5_ : (if (Go.bits .and .i64 (t413 / 8388608) 255) < 1 then 1 else (Go.bits .and .i64 (t413 / 8388608) 255)) = ji5 := hji5
    replace H := Option.bind_eq_some_iff.mp H
    obtain ⟨t415, A60, H⟩ := H
    replace H : (if (t415 / 2147483648) = 1 then (some (wrap64 (-(wrap64 ((Go.bits .and .i64 t414 8388607) + 8388608))), wrap64 ((ji5) - 150))) else (some (wrap64 ((Go.bits .and .i64 t414 8388607) + 8388608), wrap64 ((ji5) - 150)))) = some (r1, r2) := H
    have A6 := Aside0.mk A60
    clear A60
    by_cases c7 : (t415 / 2147483648) = 1
    · rw [if_pos c7] at H
      have c7b0 : ((t415 / 2147483648) == 1) = true := beq_iff_eq.mpr c7
      have c7b1 : ((t415 / 2147483648) != 1) = false := bne_eq_false_iff_eq.mpr c7
      clear c7
      simp only [Option.some.injEq, Prod.mk.injEq] at H
      obtain ⟨rfl, rfl⟩ := H
      go_enter Try.func57, Try.ntmps57
      go_wp2_with (first | ((with_reducible refine gate_callee (f := 47) rfl ?_); refine goesL_ (some 7) rfl rfl Try.func47 (by kernel_rfl) rfl #[.int .u32 a0] rfl (by (try simp only [List.map_toArray, List.map_cons, List.map_nil]); first | done | rfl | (simp only [List.length_drop, List.length_take]; rfl)) ?_; (with_reducible refine (lathelaw02_n.calls a0 t413 _ A2.out).mono ?_); rintro e w' ⟨rfl, ⟨nd, rfl⟩⟩; refine ⟨_, rfl, ?_⟩) | ((with_reducible refine gate_callee (f := 47) rfl ?_); refine goesL_ (some 11) rfl rfl Try.func47 (by kernel_rfl) rfl #[.int .u32 a0] rfl (by (try simp only [List.map_toArray, List.map_cons, List.map_nil]); first | done | rfl | (simp only [List.length_drop, List.length_take]; rfl)) ?_; (with_reducible refine (lathelaw02_n.calls a0 t414 _ A3.out).mono ?_); rintro e w' ⟨rfl, ⟨nd, rfl⟩⟩; refine ⟨_, rfl, ?_⟩) | ((with_reducible refine gate_callee (f := 47) rfl ?_); refine goesL_ (some 21) rfl rfl Try.func47 (by kernel_rfl) rfl #[.int .u32 a0] rfl (by (try simp only [List.map_toArray, List.map_cons, List.map_nil]); first | done | rfl | (simp only [List.length_drop, List.length_take]; rfl)) ?_; (with_reducible refine (lathelaw02_n.calls a0 t415 _ A6.out).mono ?_); rintro e w' ⟨rfl, ⟨nd, rfl⟩⟩; refine ⟨_, rfl, ?_⟩))
      go_ret2
      exact ⟨by first | rfl | (simp [errW_none, errW_some] <;> rfl) | (simp only [← hji5]; first | rfl | (simp [errW_none, errW_some] <;> rfl)) | (simp [*, errW_none, errW_some] <;> rfl), by repeat (first | (with_reducible first | exact HB.out | apply below_alloc | apply pw_below_drewN | apply below_drew1) | exact HB.out)⟩
    · rw [if_neg c7] at H
      have c7b0 : ((t415 / 2147483648) == 1) = false := beq_eq_false_iff_ne.mpr c7
      have c7b1 : ((t415 / 2147483648) != 1) = true := bne_iff_ne.mpr c7
      simp only [Option.some.injEq, Prod.mk.injEq] at H
      obtain ⟨rfl, rfl⟩ := H
      go_enter Try.func57, Try.ntmps57
      go_wp2_with (first | ((with_reducible refine gate_callee (f := 47) rfl ?_); refine goesL_ (some 7) rfl rfl Try.func47 (by kernel_rfl) rfl #[.int .u32 a0] rfl (by (try simp only [List.map_toArray, List.map_cons, List.map_nil]); first | done | rfl | (simp only [List.length_drop, List.length_take]; rfl)) ?_; (with_reducible refine (lathelaw02_n.calls a0 t413 _ A2.out).mono ?_); rintro e w' ⟨rfl, ⟨nd, rfl⟩⟩; refine ⟨_, rfl, ?_⟩) | ((with_reducible refine gate_callee (f := 47) rfl ?_); refine goesL_ (some 11) rfl rfl Try.func47 (by kernel_rfl) rfl #[.int .u32 a0] rfl (by (try simp only [List.map_toArray, List.map_cons, List.map_nil]); first | done | rfl | (simp only [List.length_drop, List.length_take]; rfl)) ?_; (with_reducible refine (lathelaw02_n.calls a0 t414 _ A3.out).mono ?_); rintro e w' ⟨rfl, ⟨nd, rfl⟩⟩; refine ⟨_, rfl, ?_⟩) | ((with_reducible refine gate_callee (f := 47) rfl ?_); refine goesL_ (some 21) rfl rfl Try.func47 (by kernel_rfl) rfl #[.int .u32 a0] rfl (by (try simp only [List.map_toArray, List.map_cons, List.map_nil]); first | done | rfl | (simp only [List.length_drop, List.length_take]; rfl)) ?_; (with_reducible refine (lathelaw02_n.calls a0 t415 _ A6.out).mono ?_); rintro e w' ⟨rfl, ⟨nd, rfl⟩⟩; refine ⟨_, rfl, ?_⟩))
      go_ret2
      exact ⟨by first | rfl | (simp [errW_none, errW_some] <;> rfl) | (simp only [← hji5]; first | rfl | (simp [errW_none, errW_some] <;> rfl)) | (simp [*, errW_none, errW_some] <;> rfl), by repeat (first | (with_reducible first | exact HB.out | apply below_alloc | apply pw_below_drewN | apply below_drew1) | exact HB.out)⟩
  · rw [if_neg c4] at H
    have c4b0 : decide (0 < (Go.bits .and .i64 (t413 / 8388608) 255)) = false := decide_eq_false c4
    clear c4
    obtain ⟨ji8, hji8⟩ : ∃ j_ : Int, (mx (Go.bits .and .i64 (t413 / 8388608) 255) 1) = j_ := ⟨_, rfl⟩
    replace H : ((lathelaw02_n.f a0).bind fun t416 => (if (t416 / 2147483648) = 1 then (some (wrap64 (-(Go.bits .and .i64 t414 8388607)), wrap64 ((ji8) - 150))) else (some (Go.bits .and .i64 t414 8388607, wrap64 ((ji8) - 150))))) = some (r1, r2) := by first | (rw [hji8] at H; exact H) | (simp only [hji8] at H ⊢; exact H)
    (try rw [hji8] at A2)
    (try rw [hji8] at A3)
    (try (have hji8l : 1 ≤ ji8 := by (rw [← hji8]; unfold mx; (repeat' split) <;> omega)))
    (try (have hji8m : 0 ≤ ji8 := by omega))
    have hji8_ : (if (Go.bits .and .i64 (t413 / 8388608) 255) < 1 then 1 else (Go.bits .and .i64 (t413 / 8388608) 255)) = ji8 := hji8
    replace H := Option.bind_eq_some_iff.mp H
    obtain ⟨t416, A90, H⟩ := H
    replace H : (if (t416 / 2147483648) = 1 then (some (wrap64 (-(Go.bits .and .i64 t414 8388607)), wrap64 ((ji8) - 150))) else (some (Go.bits .and .i64 t414 8388607, wrap64 ((ji8) - 150)))) = some (r1, r2) := H
    have A9 := Aside0.mk A90
    clear A90
    by_cases c10 : (t416 / 2147483648) = 1
    · rw [if_pos c10] at H
      have c10b0 : ((t416 / 2147483648) == 1) = true := beq_iff_eq.mpr c10
      have c10b1 : ((t416 / 2147483648) != 1) = false := bne_eq_false_iff_eq.mpr c10
      clear c10
      simp only [Option.some.injEq, Prod.mk.injEq] at H
      obtain ⟨rfl, rfl⟩ := H
      go_enter Try.func57, Try.ntmps57
      go_wp2_with (first | ((with_reducible refine gate_callee (f := 47) rfl ?_); refine goesL_ (some 7) rfl rfl Try.func47 (by kernel_rfl) rfl #[.int .u32 a0] rfl (by (try simp only [List.map_toArray, List.map_cons, List.map_nil]); first | done | rfl | (simp only [List.length_drop, List.length_take]; rfl)) ?_; (with_reducible refine (lathelaw02_n.calls a0 t413 _ A2.out).mono ?_); rintro e w' ⟨rfl, ⟨nd, rfl⟩⟩; refine ⟨_, rfl, ?_⟩) | ((with_reducible refine gate_callee (f := 47) rfl ?_); refine goesL_ (some 11) rfl rfl Try.func47 (by kernel_rfl) rfl #[.int .u32 a0] rfl (by (try simp only [List.map_toArray, List.map_cons, List.map_nil]); first | done | rfl | (simp only [List.length_drop, List.length_take]; rfl)) ?_; (with_reducible refine (lathelaw02_n.calls a0 t414 _ A3.out).mono ?_); rintro e w' ⟨rfl, ⟨nd, rfl⟩⟩; refine ⟨_, rfl, ?_⟩) | ((with_reducible refine gate_callee (f := 47) rfl ?_); refine goesL_ (some 21) rfl rfl Try.func47 (by kernel_rfl) rfl #[.int .u32 a0] rfl (by (try simp only [List.map_toArray, List.map_cons, List.map_nil]); first | done | rfl | (simp only [List.length_drop, List.length_take]; rfl)) ?_; (with_reducible refine (lathelaw02_n.calls a0 t416 _ A9.out).mono ?_); rintro e w' ⟨rfl, ⟨nd, rfl⟩⟩; refine ⟨_, rfl, ?_⟩))
      go_ret2
      exact ⟨by first | rfl | (simp [errW_none, errW_some] <;> rfl) | (simp only [← hji8]; first | rfl | (simp [errW_none, errW_some] <;> rfl)) | (simp [*, errW_none, errW_some] <;> rfl), by repeat (first | (with_reducible first | exact HB.out | apply below_alloc | apply pw_below_drewN | apply below_drew1) | exact HB.out)⟩
    · rw [if_neg c10] at H
      have c10b0 : ((t416 / 2147483648) == 1) = false := beq_eq_false_iff_ne.mpr c10
      have c10b1 : ((t416 / 2147483648) != 1) = true := bne_iff_ne.mpr c10
      simp only [Option.some.injEq, Prod.mk.injEq] at H
      obtain ⟨rfl, rfl⟩ := H
      go_enter Try.func57, Try.ntmps57
      go_wp2_with (first | ((with_reducible refine gate_callee (f := 47) rfl ?_); refine goesL_ (some 7) rfl rfl Try.func47 (by kernel_rfl) rfl #[.int .u32 a0] rfl (by (try simp only [List.map_toArray, List.map_cons, List.map_nil]); first | done | rfl | (simp only [List.length_drop, List.length_take]; rfl)) ?_; (with_reducible refine (lathelaw02_n.calls a0 t413 _ A2.out).mono ?_); rintro e w' ⟨rfl, ⟨nd, rfl⟩⟩; refine ⟨_, rfl, ?_⟩) | ((with_reducible refine gate_callee (f := 47) rfl ?_); refine goesL_ (some 11) rfl rfl Try.func47 (by kernel_rfl) rfl #[.int .u32 a0] rfl (by (try simp only [List.map_toArray, List.map_cons, List.map_nil]); first | done | rfl | (simp only [List.length_drop, List.length_take]; rfl)) ?_; (with_reducible refine (lathelaw02_n.calls a0 t414 _ A3.out).mono ?_); rintro e w' ⟨rfl, ⟨nd, rfl⟩⟩; refine ⟨_, rfl, ?_⟩) | ((with_reducible refine gate_callee (f := 47) rfl ?_); refine goesL_ (some 21) rfl rfl Try.func47 (by kernel_rfl) rfl #[.int .u32 a0] rfl (by (try simp only [List.map_toArray, List.map_cons, List.map_nil]); first | done | rfl | (simp only [List.length_drop, List.length_take]; rfl)) ?_; (with_reducible refine (lathelaw02_n.calls a0 t416 _ A9.out).mono ?_); rintro e w' ⟨rfl, ⟨nd, rfl⟩⟩; refine ⟨_, rfl, ?_⟩))
      go_ret2
      exact ⟨by first | rfl | (simp [errW_none, errW_some] <;> rfl) | (simp only [← hji8]; first | rfl | (simp [errW_none, errW_some] <;> rfl)) | (simp [*, errW_none, errW_some] <;> rfl), by repeat (first | (with_reducible first | exact HB.out | apply below_alloc | apply pw_below_drewN | apply below_drew1) | exact HB.out)⟩

/-! ### lathelaw02_even: function 59 -/
def lathelaw02_even.f (a0 : Int) (a1 : Int) (a2 : Int) : Option (Bool) := if a2 = 0 then (some (a0 == a1)) else (if 0 ≤ (IntKind.u64.wrap (a2)) then (if (wrap64 (a1 - (shl .i64 a0 (IntKind.u64.wrap (a2))))) < 0 then (if 0 ≤ (IntKind.u64.wrap (wrap64 (a2 - 1))) then (if (wrap64 (-(wrap64 (a1 - (shl .i64 a0 (IntKind.u64.wrap (a2))))))) < (shl .i64 1 (IntKind.u64.wrap (wrap64 (a2 - 1)))) then (some true) else (if (wrap64 (-(wrap64 (a1 - (shl .i64 a0 (IntKind.u64.wrap (a2))))))) = (shl .i64 1 (IntKind.u64.wrap (wrap64 (a2 - 1)))) then (some ((Int.tmod a0 2) == 0)) else (some false))) else (none)) else (if 0 ≤ (IntKind.u64.wrap (wrap64 (a2 - 1))) then (if (wrap64 (a1 - (shl .i64 a0 (IntKind.u64.wrap (a2))))) < (shl .i64 1 (IntKind.u64.wrap (wrap64 (a2 - 1)))) then (some true) else (if (wrap64 (a1 - (shl .i64 a0 (IntKind.u64.wrap (a2))))) = (shl .i64 1 (IntKind.u64.wrap (wrap64 (a2 - 1)))) then (some ((Int.tmod a0 2) == 0)) else (some false))) else (none))) else (none))
set_option maxHeartbeats 8000000 in
set_option maxRecDepth 100000 in
theorem lathelaw02_even.calls (a0 : Int) (a1 : Int) (a2 : Int) (r : Bool) (w : World) (h : lathelaw02_even.f a0 a1 a2 = some r) :
    Calls Try.prog 59 #[.int .i64 a0, .int .i64 a1, .int .i64 a2] w fun e w' => e = .returned (.bool r) ∧ Drawn0 w w' := by
  have H : (if a2 = 0 then (some (a0 == a1)) else (if 0 ≤ (IntKind.u64.wrap (a2)) then (if (wrap64 (a1 - (shl .i64 a0 (IntKind.u64.wrap (a2))))) < 0 then (if 0 ≤ (IntKind.u64.wrap (wrap64 (a2 - 1))) then (if (wrap64 (-(wrap64 (a1 - (shl .i64 a0 (IntKind.u64.wrap (a2))))))) < (shl .i64 1 (IntKind.u64.wrap (wrap64 (a2 - 1)))) then (some true) else (if (wrap64 (-(wrap64 (a1 - (shl .i64 a0 (IntKind.u64.wrap (a2))))))) = (shl .i64 1 (IntKind.u64.wrap (wrap64 (a2 - 1)))) then (some ((Int.tmod a0 2) == 0)) else (some false))) else (none)) else (if 0 ≤ (IntKind.u64.wrap (wrap64 (a2 - 1))) then (if (wrap64 (a1 - (shl .i64 a0 (IntKind.u64.wrap (a2))))) < (shl .i64 1 (IntKind.u64.wrap (wrap64 (a2 - 1)))) then (some true) else (if (wrap64 (a1 - (shl .i64 a0 (IntKind.u64.wrap (a2))))) = (shl .i64 1 (IntKind.u64.wrap (wrap64 (a2 - 1)))) then (some ((Int.tmod a0 2) == 0)) else (some false))) else (none))) else (none))) = some r := h
  clear h
  by_cases c4 : a2 = 0
  · rw [if_pos c4] at H
    have c4b0 : (a2 == 0) = true := beq_iff_eq.mpr c4
    have c4b1 : (a2 != 0) = false := bne_eq_false_iff_eq.mpr c4
    clear c4
    obtain rfl := Option.some.inj H
    go_enter Try.func59, Try.ntmps59
    go_wp2
    go_ret
    exact ⟨by first | rfl | (simp; done) | (simp [*]; done), by repeat (first | exact Drawn0.refl _ | apply Drawn0.step)⟩
  · rw [if_neg c4] at H
    have c4b0 : (a2 == 0) = false := beq_eq_false_iff_ne.mpr c4
    have c4b1 : (a2 != 0) = true := bne_iff_ne.mpr c4
    obtain ⟨ji5, hji5⟩ : ∃ j_ : Int, (IntKind.u64.wrap (a2)) = j_ := ⟨_, rfl⟩
    replace H : (if 0 ≤ (ji5) then (if (wrap64 (a1 - (shl .i64 a0 (ji5)))) < 0 then (if 0 ≤ (IntKind.u64.wrap (wrap64 (a2 - 1))) then (if (wrap64 (-(wrap64 (a1 - (shl .i64 a0 (ji5)))))) < (shl .i64 1 (IntKind.u64.wrap (wrap64 (a2 - 1)))) then (some true) else (if (wrap64 (-(wrap64 (a1 - (shl .i64 a0 (ji5)))))) = (shl .i64 1 (IntKind.u64.wrap (wrap64 (a2 - 1)))) then (some ((Int.tmod a0 2) == 0)) else (some false))) else (none)) else (if 0 ≤ (IntKind.u64.wrap (wrap64 (a2 - 1))) then (if (wrap64 (a1 - (shl .i64 a0 (ji5)))) < (shl .i64 1 (IntKind.u64.wrap (wrap64 (a2 - 1)))) then (some true) else (if (wrap64 (a1 - (shl .i64 a0 (ji5)))) = (shl .i64 1 (IntKind.u64.wrap (wrap64 (a2 - 1)))) then (some ((Int.tmod a0 2) == 0)) else (some false))) else (none))) else (none)) = some r := by first | (rw [hji5] at H; exact H) | (simp only [hji5] at H ⊢; exact H)
    by_cases c6 : 0 ≤ (ji5)
    · rw [if_pos c6] at H
      have c6b0 := eq_true c6
      have c6b1 : decide (0 ≤ (ji5)) = true := decide_eq_true c6
      clear c6
      obtain ⟨ji7, hji7⟩ : ∃ j_ : Int, (shl .i64 a0 (ji5)) = j_ := ⟨_, rfl⟩
      replace H : (if (wrap64 (a1 - (ji7))) < 0 then (if 0 ≤ (IntKind.u64.wrap (wrap64 (a2 - 1))) then (if (wrap64 (-(wrap64 (a1 - (ji7))))) < (shl .i64 1 (IntKind.u64.wrap (wrap64 (a2 - 1)))) then (some true) else (if (wrap64 (-(wrap64 (a1 - (ji7))))) = (shl .i64 1 (IntKind.u64.wrap (wrap64 (a2 - 1)))) then (some ((Int.tmod a0 2) == 0)) else (some false))) else (none)) else (if 0 ≤ (IntKind.u64.wrap (wrap64 (a2 - 1))) then (if (wrap64 (a1 - (ji7))) < (shl .i64 1 (IntKind.u64.wrap (wrap64 (a2 - 1)))) then (some true) else (if (wrap64 (a1 - (ji7))) = (shl .i64 1 (IntKind.u64.wrap (wrap64 (a2 - 1)))) then (some ((Int.tmod a0 2) == 0)) else (some false))) else (none))) = some r := by first | (rw [hji7] at H; exact H) | (simp only [hji7] at H ⊢; exact H)
      have hji7_ : (IntKind.i64.wrap (a0 * 2 ^ min (ji5).toNat 64)) = ji7 := hji7
      have hji7z : (ji5) ≤ 64 → (IntKind.i64.wrap (a0 * 2 ^ (ji5).toNat)) = ji7 := shl_small hji7
      have hji7y : (wrap64 (a0 * 2 ^ min (ji5).toNat 64)) = ji7 := (i64_w _).symm.trans hji7_
      have hji7x : (ji5) ≤ 64 → (wrap64 (a0 * 2 ^ (ji5).toNat)) = ji7 := fun h_ => (i64_w _).symm.trans (hji7z h_)
      by_cases c8 : (wrap64 (a1 - (ji7))) < 0
      · rw [if_pos c8] at H
        have c8b0 : decide ((wrap64 (a1 - (ji7))) < 0) = true := decide_eq_true c8
        clear c8
        obtain ⟨ji9, hji9⟩ : ∃ j_ : Int, (IntKind.u64.wrap (wrap64 (a2 - 1))) = j_ := ⟨_, rfl⟩
        replace H : (if 0 ≤ (ji9) then (if (wrap64 (-(wrap64 (a1 - (ji7))))) < (shl .i64 1 (ji9)) then (some true) else (if (wrap64 (-(wrap64 (a1 - (ji7))))) = (shl .i64 1 (ji9)) then (some ((Int.tmod a0 2) == 0)) else (some false))) else (none)) = some r := by first | (rw [hji9] at H; exact H) | (simp only [hji9] at H ⊢; exact H)
        by_cases c10 : 0 ≤ (ji9)
        · rw [if_pos c10] at H
          have c10b0 := eq_true c10
          have c10b1 : decide (0 ≤ (ji9)) = true := decide_eq_true c10
          clear c10
          obtain ⟨ji11, hji11⟩ : ∃ j_ : Int, (shl .i64 1 (ji9)) = j_ := ⟨_, rfl⟩
          replace H : (if (wrap64 (-(wrap64 (a1 - (ji7))))) < (ji11) then (some true) else (if (wrap64 (-(wrap64 (a1 - (ji7))))) = (ji11) then (some ((Int.tmod a0 2) == 0)) else (some false))) = some r := by first | (rw [hji11] at H; exact H) | (simp only [hji11] at H ⊢; exact H)
          have hji11_ : (IntKind.i64.wrap (1 * 2 ^ min (ji9).toNat 64)) = ji11 := hji11
          have hji11z : (ji9) ≤ 64 → (IntKind.i64.wrap (1 * 2 ^ (ji9).toNat)) = ji11 := shl_small hji11
          have hji11u : (IntKind.i64.wrap (2 ^ min (ji9).toNat 64)) = ji11 := by have h_ := hji11_; rw [Int.one_mul] at h_; exact h_
          have hji11v : (ji9) ≤ 64 → (IntKind.i64.wrap (2 ^ (ji9).toNat)) = ji11 := fun hle_ => by have h_ := hji11z hle_; rw [Int.one_mul] at h_; exact h_
          have hji11y : (wrap64 (1 * 2 ^ min (ji9).toNat 64)) = ji11 := (i64_w _).symm.trans hji11_
          have hji11x : (ji9) ≤ 64 → (wrap64 (1 * 2 ^ (ji9).toNat)) = ji11 := fun h_ => (i64_w _).symm.trans (hji11z h_)
          by_cases c12 : (wrap64 (-(wrap64 (a1 - (ji7))))) < (ji11)
          · rw [if_pos c12] at H
            have c12b0 : decide ((wrap64 (-(wrap64 (a1 - (ji7))))) < (ji11)) = true := decide_eq_true c12
            clear c12
            obtain rfl := Option.some.inj H
            go_enter Try.func59, Try.ntmps59
            go_wp2
            go_ret
            exact ⟨by first | rfl | (simp; done) | (simp only [← hji5, ← hji7, ← hji9, ← hji11] <;> (first | rfl | simp)) | (simp [*]; done), by repeat (first | exact Drawn0.refl _ | apply Drawn0.step)⟩
          · rw [if_neg c12] at H
            have c12b0 : decide ((wrap64 (-(wrap64 (a1 - (ji7))))) < (ji11)) = false := decide_eq_false c12
            clear c12
            by_cases c13 : (wrap64 (-(wrap64 (a1 - (ji7))))) = (ji11)
            · rw [if_pos c13] at H
              have c13b0 : ((wrap64 (-(wrap64 (a1 - (ji7))))) == (ji11)) = true := beq_iff_eq.mpr c13
              have c13b1 : ((wrap64 (-(wrap64 (a1 - (ji7))))) != (ji11)) = false := bne_eq_false_iff_eq.mpr c13
              clear c13
              obtain rfl := Option.some.inj H
              go_enter Try.func59, Try.ntmps59
              go_wp2
              go_ret
              exact ⟨by first | rfl | (simp; done) | (simp only [← hji5, ← hji7, ← hji9, ← hji11] <;> (first | rfl | simp)) | (simp [*]; done), by repeat (first | exact Drawn0.refl _ | apply Drawn0.step)⟩
            · rw [if_neg c13] at H
              have c13b0 : ((wrap64 (-(wrap64 (a1 - (ji7))))) == (ji11)) = false := beq_eq_false_iff_ne.mpr c13
              have c13b1 : ((wrap64 (-(wrap64 (a1 - (ji7))))) != (ji11)) = true := bne_iff_ne.mpr c13
              obtain rfl := Option.some.inj H
              go_enter Try.func59, Try.ntmps59
              go_wp2
              go_ret
              exact ⟨by first | rfl | (simp; done) | (simp only [← hji5, ← hji7, ← hji9, ← hji11] <;> (first | rfl | simp)) | (simp [*]; done), by repeat (first | exact Drawn0.refl _ | apply Drawn0.step)⟩
        · rw [if_neg c10] at H
          exact absurd H (by simp)
      · rw [if_neg c8] at H
        have c8b0 : decide ((wrap64 (a1 - (ji7))) < 0) = false := decide_eq_false c8
        clear c8
        obtain ⟨ji14, hji14⟩ : ∃ j_ : Int, (IntKind.u64.wrap (wrap64 (a2 - 1))) = j_ := ⟨_, rfl⟩
        replace H : (if 0 ≤ (ji14) then (if (wrap64 (a1 - (ji7))) < (shl .i64 1 (ji14)) then (some true) else (if (wrap64 (a1 - (ji7))) = (shl .i64 1 (ji14)) then (some ((Int.tmod a0 2) == 0)) else (some false))) else (none)) = some r := by first | (rw [hji14] at H; exact H) | (simp only [hji14] at H ⊢; exact H)
        by_cases c15 : 0 ≤ (ji14)
        · rw [if_pos c15] at H
          have c15b0 := eq_true c15
          have c15b1 : decide (0 ≤ (ji14)) = true := decide_eq_true c15
          clear c15
          obtain ⟨ji16, hji16⟩ : ∃ j_ : Int, (shl .i64 1 (ji14)) = j_ := ⟨_, rfl⟩
          replace H : (if (wrap64 (a1 - (ji7))) < (ji16) then (some true) else (if (wrap64 (a1 - (ji7))) = (ji16) then (some ((Int.tmod a0 2) == 0)) else (some false))) = some r := by first | (rw [hji16] at H; exact H) | (simp only [hji16] at H ⊢; exact H)
          have hji16_ : (IntKind.i64.wrap (1 * 2 ^ min (ji14).toNat 64)) = ji16 := hji16
          have hji16z : (ji14) ≤ 64 → (IntKind.i64.wrap (1 * 2 ^ (ji14).toNat)) = ji16 := shl_small hji16
          have hji16u : (IntKind.i64.wrap (2 ^ min (ji14).toNat 64)) = ji16 := by have h_ := hji16_; rw [Int.one_mul] at h_; exact h_
          have hji16v : (ji14) ≤ 64 → (IntKind.i64.wrap (2 ^ (ji14).toNat)) = ji16 := fun hle_ => by have h_ := hji16z hle_; rw [Int.one_mul] at h_; exact h_
          have hji16y : (wrap64 (1 * 2 ^ min (ji14).toNat 64)) = ji16 := (i64_w _).symm.trans hji16_
          have hji16x : (ji14) ≤ 64 → (wrap64 (1 * 2 ^ (ji14).toNat)) = ji16 := fun h_ => (i64_w _).symm.trans (hji16z h_)
          by_cases c17 : (wrap64 (a1 - (ji7))) < (ji16)
          · rw [if_pos c17] at H
            have c17b0 : decide ((wrap64 (a1 - (ji7))) < (ji16)) = true := decide_eq_true c17
            clear c17
            obtain rfl := Option.some.inj H
            go_enter Try.func59, Try.ntmps59
            go_wp2
            go_ret
            exact ⟨by first | rfl | (simp; done) | (simp only [← hji5, ← hji7, ← hji14, ← hji16] <;> (first | rfl | simp)) | (simp [*]; done), by repeat (first | exact Drawn0.refl _ | apply Drawn0.step)⟩
          · rw [if_neg c17] at H
            have c17b0 : decide ((wrap64 (a1 - (ji7))) < (ji16)) = false := decide_eq_false c17
            clear c17
            by_cases c18 : (wrap64 (a1 - (ji7))) = (ji16)
            · rw [if_pos c18] at H
              have c18b0 : ((wrap64 (a1 - (ji7))) == (ji16)) = true := beq_iff_eq.mpr c18
              have c18b1 : ((wrap64 (a1 - (ji7))) != (ji16)) = false := bne_eq_false_iff_eq.mpr c18
              clear c18
              obtain rfl := Option.some.inj H
              go_enter Try.func59, Try.ntmps59
              go_wp2
              go_ret
              exact ⟨by first | rfl | (simp; done) | (simp only [← hji5, ← hji7, ← hji14, ← hji16] <;> (first | rfl | simp)) | (simp [*]; done), by repeat (first | exact Drawn0.refl _ | apply Drawn0.step)⟩
            · rw [if_neg c18] at H
              have c18b0 : ((wrap64 (a1 - (ji7))) == (ji16)) = false := beq_eq_false_iff_ne.mpr c18
              have c18b1 : ((wrap64 (a1 - (ji7))) != (ji16)) = true := bne_iff_ne.mpr c18
              obtain rfl := Option.some.inj H
              go_enter Try.func59, Try.ntmps59
              go_wp2
              go_ret
              exact ⟨by first | rfl | (simp; done) | (simp only [← hji5, ← hji7, ← hji14, ← hji16] <;> (first | rfl | simp)) | (simp [*]; done), by repeat (first | exact Drawn0.refl _ | apply Drawn0.step)⟩
        · rw [if_neg c15] at H
          exact absurd H (by simp)
    · rw [if_neg c6] at H
      exact absurd H (by simp)

end Go.Proofs.Ytcegmbplgghjnaa.PF
