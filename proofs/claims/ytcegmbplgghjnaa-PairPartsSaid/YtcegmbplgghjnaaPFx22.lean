/- The functions of the program that a statement reaches, as plain functions, and that the machine's calls do what these say. No condition. (Printed by a program.) -/
import Derived.Test.YtcegmbplgghjnaaPFx0
import Derived.Test.YtcegmbplgghjnaaPFx2
import Derived.Test.YtcegmbplgghjnaaPFx3
import Derived.Test.YtcegmbplgghjnaaPFx4
import Derived.Test.YtcegmbplgghjnaaPFx6
import Derived.Test.YtcegmbplgghjnaaPFx7
import Derived.Test.YtcegmbplgghjnaaPFx11
import Derived.Test.YtcegmbplgghjnaaPFx16
namespace Go.Proofs.Ytcegmbplgghjnaa.PF
open Go.RowKit Go.Proofs.YtcegmbplgghjnaaW.PrintWords Go.Proofs.YtcegmbplgghjnaaW.PrintLast Go.Proofs.YtcegmbplgghjnaaW.PrintMore
attribute [local go_sem] max2_int min2_int max_two min_two max_three min_three max_four min_four   -- for this text's walks alone
set_option linter.unusedVariables false
set_option linter.unusedSimpArgs false

/-! ### lathelaw02_exact: function 71 -/
def lathelaw02_exact.f (a0 : Int) (a1 : Int) (a2 : Int) : Option (Bool × Bool) := (lathelaw02_parts.f a1).bind fun bt516 => ((lathelaw02_parts.f a2).bind fun bt518 => ((lathelaw02_parts.f a0).bind fun bt520 => (if (wrap64 ((mx (mx bt516.2 bt518.2) bt520.2) - (mn (mn bt516.2 bt518.2) bt520.2))) > 36 then (some (false, false)) else (if 0 ≤ (IntKind.u64.wrap (wrap64 (bt516.2 - (mn (mn bt516.2 bt518.2) bt520.2)))) then (if 0 ≤ (IntKind.u64.wrap (wrap64 (bt518.2 - (mn (mn bt516.2 bt518.2) bt520.2)))) then (if 0 ≤ (IntKind.u64.wrap (wrap64 (bt520.2 - (mn (mn bt516.2 bt518.2) bt520.2)))) then (some (((wrap64 ((shl .i64 bt516.1 (IntKind.u64.wrap (wrap64 (bt516.2 - (mn (mn bt516.2 bt518.2) bt520.2))))) + (shl .i64 bt518.1 (IntKind.u64.wrap (wrap64 (bt518.2 - (mn (mn bt516.2 bt518.2) bt520.2))))))) == (shl .i64 bt520.1 (IntKind.u64.wrap (wrap64 (bt520.2 - (mn (mn bt516.2 bt518.2) bt520.2)))))), true)) else (none)) else (none)) else (none)))))
set_option maxHeartbeats 8000000 in
set_option maxRecDepth 100000 in
theorem lathelaw02_exact.calls (a0 : Int) (a1 : Int) (a2 : Int) (r1 : Bool) (r2 : Bool) (w : World) (h : lathelaw02_exact.f a0 a1 a2 = some (r1, r2)) :
    Calls Try.prog 71 #[.int .u32 a0, .int .u32 a1, .int .u32 a2] w fun e w' => e = .returned (.tuple #[.bool r1, .bool r2]) ∧ Below w.heap.size w w' := by
  have HB := Aside0.mk (Below.refl w.heap.size w)
  have H : ((lathelaw02_parts.f a1).bind fun bt516 => ((lathelaw02_parts.f a2).bind fun bt518 => ((lathelaw02_parts.f a0).bind fun bt520 => (if (wrap64 ((mx (mx bt516.2 bt518.2) bt520.2) - (mn (mn bt516.2 bt518.2) bt520.2))) > 36 then (some (false, false)) else (if 0 ≤ (IntKind.u64.wrap (wrap64 (bt516.2 - (mn (mn bt516.2 bt518.2) bt520.2)))) then (if 0 ≤ (IntKind.u64.wrap (wrap64 (bt518.2 - (mn (mn bt516.2 bt518.2) bt520.2)))) then (if 0 ≤ (IntKind.u64.wrap (wrap64 (bt520.2 - (mn (mn bt516.2 bt518.2) bt520.2)))) then (some (((wrap64 ((shl .i64 bt516.1 (IntKind.u64.wrap (wrap64 (bt516.2 - (mn (mn bt516.2 bt518.2) bt520.2))))) + (shl .i64 bt518.1 (IntKind.u64.wrap (wrap64 (bt518.2 - (mn (mn bt516.2 bt518.2) bt520.2))))))) == (shl .i64 bt520.1 (IntKind.u64.wrap (wrap64 (bt520.2 - (mn (mn bt516.2 bt518.2) bt520.2)))))), true)) else (none)) else (none)) else (none)))))) = some (r1, r2) := h
  clear h
  replace H := Option.bind_eq_some_iff.mp H
  obtain ⟨⟨t516, t517⟩, A40, H⟩ := H
  replace H : ((lathelaw02_parts.f a2).bind fun bt518 => ((lathelaw02_parts.f a0).bind fun bt520 => (if (wrap64 ((mx (mx t517 bt518.2) bt520.2) - (mn (mn t517 bt518.2) bt520.2))) > 36 then (some (false, false)) else (if 0 ≤ (IntKind.u64.wrap (wrap64 (t517 - (mn (mn t517 bt518.2) bt520.2)))) then (if 0 ≤ (IntKind.u64.wrap (wrap64 (bt518.2 - (mn (mn t517 bt518.2) bt520.2)))) then (if 0 ≤ (IntKind.u64.wrap (wrap64 (bt520.2 - (mn (mn t517 bt518.2) bt520.2)))) then (some (((wrap64 ((shl .i64 t516 (IntKind.u64.wrap (wrap64 (t517 - (mn (mn t517 bt518.2) bt520.2))))) + (shl .i64 bt518.1 (IntKind.u64.wrap (wrap64 (bt518.2 - (mn (mn t517 bt518.2) bt520.2))))))) == (shl .i64 bt520.1 (IntKind.u64.wrap (wrap64 (bt520.2 - (mn (mn t517 bt518.2) bt520.2)))))), true)) else (none)) else (none)) else (none))))) = some (r1, r2) := H
  have A4 := Aside0.mk A40
  clear A40
  replace H := Option.bind_eq_some_iff.mp H
  obtain ⟨⟨t518, t519⟩, A50, H⟩ := H
  replace H : ((lathelaw02_parts.f a0).bind fun bt520 => (if (wrap64 ((mx (mx t517 t519) bt520.2) - (mn (mn t517 t519) bt520.2))) > 36 then (some (false, false)) else (if 0 ≤ (IntKind.u64.wrap (wrap64 (t517 - (mn (mn t517 t519) bt520.2)))) then (if 0 ≤ (IntKind.u64.wrap (wrap64 (t519 - (mn (mn t517 t519) bt520.2)))) then (if 0 ≤ (IntKind.u64.wrap (wrap64 (bt520.2 - (mn (mn t517 t519) bt520.2)))) then (some (((wrap64 ((shl .i64 t516 (IntKind.u64.wrap (wrap64 (t517 - (mn (mn t517 t519) bt520.2))))) + (shl .i64 t518 (IntKind.u64.wrap (wrap64 (t519 - (mn (mn t517 t519) bt520.2))))))) == (shl .i64 bt520.1 (IntKind.u64.wrap (wrap64 (bt520.2 - (mn (mn t517 t519) bt520.2)))))), true)) else (none)) else (none)) else (none)))) = some (r1, r2) := H
  have A5 := Aside0.mk A50
  clear A50
  replace H := Option.bind_eq_some_iff.mp H
  obtain ⟨⟨t520, t521⟩, A60, H⟩ := H
  replace H : (if (wrap64 ((mx (mx t517 t519) t521) - (mn (mn t517 t519) t521))) > 36 then (some (false, false)) else (if 0 ≤ (IntKind.u64.wrap (wrap64 (t517 - (mn (mn t517 t519) t521)))) then (if 0 ≤ (IntKind.u64.wrap (wrap64 (t519 - (mn (mn t517 t519) t521)))) then (if 0 ≤ (IntKind.u64.wrap (wrap64 (t521 - (mn (mn t517 t519) t521)))) then (some (((wrap64 ((shl .i64 t516 (IntKind.u64.wrap (wrap64 (t517 - (mn (mn t517 t519) t521))))) + (shl .i64 t518 (IntKind.u64.wrap (wrap64 (t519 - (mn (mn t517 t519) t521))))))) == (shl .i64 t520 (IntKind.u64.wrap (wrap64 (t521 - (mn (mn t517 t519) t521)))))), true)) else (none)) else (none)) else (none))) = some (r1, r2) := H
  have A6 := Aside0.mk A60
  clear A60
  obtain ⟨ji7, hji7⟩ : ∃ j_ : Int, (mn t517 t519) = j_ := ⟨_, rfl⟩
  replace H : (if (wrap64 ((mx (mx t517 t519) t521) - (mn (ji7) t521))) > 36 then (some (false, false)) else (if 0 ≤ (IntKind.u64.wrap (wrap64 (t517 - (mn (ji7) t521)))) then (if 0 ≤ (IntKind.u64.wrap (wrap64 (t519 - (mn (ji7) t521)))) then (if 0 ≤ (IntKind.u64.wrap (wrap64 (t521 - (mn (ji7) t521)))) then (some (((wrap64 ((shl .i64 t516 (IntKind.u64.wrap (wrap64 (t517 - (mn (ji7) t521))))) + (shl .i64 t518 (IntKind.u64.wrap (wrap64 (t519 - (mn (ji7) t521))))))) == (shl .i64 t520 (IntKind.u64.wrap (wrap64 (t521 - (mn (ji7) t521)))))), true)) else (none)) else (none)) else (none))) = some (r1, r2) := by first | (rw [hji7] at H; exact H) | (simp only [hji7] at H ⊢; exact H)
  (try rw [hji7] at A4)
  (try rw [hji7] at A5)
  (try rw [hji7] at A6)
  have hji7_ : (if t519 < t517 then t519 else t517) = ji7 := hji7
  obtain ⟨ji8, hji8⟩ : ∃ j_ : Int, (mn (ji7) t521) = j_ := ⟨_, rfl⟩
  replace H : (if (wrap64 ((mx (mx t517 t519) t521) - (ji8))) > 36 then (some (false, false)) else (if 0 ≤ (IntKind.u64.wrap (wrap64 (t517 - (ji8)))) then (if 0 ≤ (IntKind.u64.wrap (wrap64 (t519 - (ji8)))) then (if 0 ≤ (IntKind.u64.wrap (wrap64 (t521 - (ji8)))) then (some (((wrap64 ((shl .i64 t516 (IntKind.u64.wrap (wrap64 (t517 - (ji8))))) + (shl .i64 t518 (IntKind.u64.wrap (wrap64 (t519 - (ji8))))))) == (shl .i64 t520 (IntKind.u64.wrap (wrap64 (t521 - (ji8)))))), true)) else (none)) else (none)) else (none))) = some (r1, r2) := by first | (rw [hji8] at H; exact H) | (simp only [hji8] at H ⊢; exact H)
  (try rw [hji8] at A4)
  (try rw [hji8] at A5)
  (try rw [hji8] at A6)
  have hji8_ : (if t521 < (ji7) then t521 else (ji7)) = ji8 := hji8
  obtain ⟨ji9, hji9⟩ : ∃ j_ : Int, (mx t517 t519) = j_ := ⟨_, rfl⟩
  replace H : (if (wrap64 ((mx (ji9) t521) - (ji8))) > 36 then (some (false, false)) else (if 0 ≤ (IntKind.u64.wrap (wrap64 (t517 - (ji8)))) then (if 0 ≤ (IntKind.u64.wrap (wrap64 (t519 - (ji8)))) then (if 0 ≤ (IntKind.u64.wrap (wrap64 (t521 - (ji8)))) then (some (((wrap64 ((shl .i64 t516 (IntKind.u64.wrap (wrap64 (t517 - (ji8))))) + (shl .i64 t518 (IntKind.u64.wrap (wrap64 (t519 - (ji8))))))) == (shl .i64 t520 (IntKind.u64.wrap (wrap64 (t521 - (ji8)))))), true)) else (none)) else (none)) else (none))) = some (r1, r2) := by first | (rw [hji9] at H; exact H) | (simp only [hji9] at H ⊢; exact H)
  (try rw [hji9] at A4)
  (try rw [hji9] at A5)
  (try rw [hji9] at A6)
  have hji9_ : (if t517 < t519 then t519 else t517) = ji9 := hji9
  obtain ⟨ji10, hji10⟩ : ∃ j_ : Int, (mx (ji9) t521) = j_ := ⟨_, rfl⟩
  replace H : (if (wrap64 ((ji10) - (ji8))) > 36 then (some (false, false)) else (if 0 ≤ (IntKind.u64.wrap (wrap64 (t517 - (ji8)))) then (if 0 ≤ (IntKind.u64.wrap (wrap64 (t519 - (ji8)))) then (if 0 ≤ (IntKind.u64.wrap (wrap64 (t521 - (ji8)))) then (some (((wrap64 ((shl .i64 t516 (IntKind.u64.wrap (wrap64 (t517 - (ji8))))) + (shl .i64 t518 (IntKind.u64.wrap (wrap64 (t519 - (ji8))))))) == (shl .i64 t520 (IntKind.u64.wrap (wrap64 (t521 - (ji8)))))), true)) else (none)) else (none)) else (none))) = some (r1, r2) := by first | (rw [hji10] at H; exact H) | (simp only [hji10] at H ⊢; exact H)
  (try rw [hji10] at A4)
  (try rw [hji10] at A5)
  (try rw [hji10] at A6)
  have hji10_ : (if (ji9) < t521 then t521 else (ji9)) = ji10 := hji10
  by_cases c11 : (wrap64 ((ji10) - (ji8))) > 36
  · rw [if_pos c11] at H
    have c11b0 : decide (36 < (wrap64 ((ji10) - (ji8)))) = true := decide_eq_true c11
    clear c11
    simp only [Option.some.injEq, Prod.mk.injEq] at H
    obtain ⟨rfl, rfl⟩ := H
    go_enter Try.func71, Try.ntmps71
    go_wp2_with (first | ((with_reducible refine gate_callee (f := 57) rfl ?_); refine goesL_ (some 17) rfl rfl Try.func57 (by kernel_rfl) rfl #[.int .u32 a1] rfl (by (try simp only [List.map_toArray, List.map_cons, List.map_nil]); first | done | rfl | (simp only [List.length_drop, List.length_take]; rfl)) ?_; (with_reducible refine (lathelaw02_parts.calls a1 t516 t517 _ A4.out).mono ?_); rintro e w12 ⟨rfl, hb⟩; refine ⟨_, rfl, ?_⟩; have n0_ := Aside0.mk (below_step (by repeat (first | (with_reducible first | exact HB.out | apply below_alloc | apply pw_below_drewN | apply below_drew1) | exact HB.out)) hb); clear HB; have HB := n0_; clear n0_; (try clear hb); (try clear hb2); (try clear hk); (try clear hi)) | ((with_reducible refine gate_callee (f := 57) rfl ?_); refine goesL_ (some 22) rfl rfl Try.func57 (by kernel_rfl) rfl #[.int .u32 a2] rfl (by (try simp only [List.map_toArray, List.map_cons, List.map_nil]); first | done | rfl | (simp only [List.length_drop, List.length_take]; rfl)) ?_; (with_reducible refine (lathelaw02_parts.calls a2 t518 t519 _ A5.out).mono ?_); rintro e w13 ⟨rfl, hb⟩; refine ⟨_, rfl, ?_⟩; have n0_ := Aside0.mk (below_step (by repeat (first | (with_reducible first | exact HB.out | apply below_alloc | apply pw_below_drewN | apply below_drew1) | exact HB.out)) hb); clear HB; have HB := n0_; clear n0_; (try clear hb); (try clear hb2); (try clear hk); (try clear hi)) | ((with_reducible refine gate_callee (f := 57) rfl ?_); refine goesL_ (some 27) rfl rfl Try.func57 (by kernel_rfl) rfl #[.int .u32 a0] rfl (by (try simp only [List.map_toArray, List.map_cons, List.map_nil]); first | done | rfl | (simp only [List.length_drop, List.length_take]; rfl)) ?_; (with_reducible refine (lathelaw02_parts.calls a0 t520 t521 _ A6.out).mono ?_); rintro e w14 ⟨rfl, hb⟩; refine ⟨_, rfl, ?_⟩; have n0_ := Aside0.mk (below_step (by repeat (first | (with_reducible first | exact HB.out | apply below_alloc | apply pw_below_drewN | apply below_drew1) | exact HB.out)) hb); clear HB; have HB := n0_; clear n0_; (try clear hb); (try clear hb2); (try clear hk); (try clear hi)))
    go_ret2
    exact ⟨by first | rfl | (simp [errW_none, errW_some] <;> rfl) | (simp only [← hji7, ← hji8, ← hji9, ← hji10]; first | rfl | (simp [errW_none, errW_some] <;> rfl)) | (simp [*, errW_none, errW_some] <;> rfl), by repeat (first | (with_reducible first | exact HB.out | apply below_alloc | apply pw_below_drewN | apply below_drew1) | exact HB.out)⟩
  · rw [if_neg c11] at H
    have c11b0 : decide (36 < (wrap64 ((ji10) - (ji8)))) = false := decide_eq_false c11
    clear c11
    obtain ⟨ji15, hji15⟩ : ∃ j_ : Int, (IntKind.u64.wrap (wrap64 (t517 - (ji8)))) = j_ := ⟨_, rfl⟩
    replace H : (if 0 ≤ (ji15) then (if 0 ≤ (IntKind.u64.wrap (wrap64 (t519 - (ji8)))) then (if 0 ≤ (IntKind.u64.wrap (wrap64 (t521 - (ji8)))) then (some (((wrap64 ((shl .i64 t516 (ji15)) + (shl .i64 t518 (IntKind.u64.wrap (wrap64 (t519 - (ji8))))))) == (shl .i64 t520 (IntKind.u64.wrap (wrap64 (t521 - (ji8)))))), true)) else (none)) else (none)) else (none)) = some (r1, r2) := by first | (rw [hji15] at H; exact H) | (simp only [hji15] at H ⊢; exact H)
    (try rw [hji15] at A4)
    (try rw [hji15] at A5)
    (try rw [hji15] at A6)
    by_cases c16 : 0 ≤ (ji15)
    · rw [if_pos c16] at H
      have c16b0 := eq_true c16
      have c16b1 : decide (0 ≤ (ji15)) = true := decide_eq_true c16
      clear c16
      obtain ⟨ji17, hji17⟩ : ∃ j_ : Int, (shl .i64 t516 (ji15)) = j_ := ⟨_, rfl⟩
      replace H : (if 0 ≤ (IntKind.u64.wrap (wrap64 (t519 - (ji8)))) then (if 0 ≤ (IntKind.u64.wrap (wrap64 (t521 - (ji8)))) then (some (((wrap64 ((ji17) + (shl .i64 t518 (IntKind.u64.wrap (wrap64 (t519 - (ji8))))))) == (shl .i64 t520 (IntKind.u64.wrap (wrap64 (t521 - (ji8)))))), true)) else (none)) else (none)) = some (r1, r2) := by first | (rw [hji17] at H; exact H) | (simp only [hji17] at H ⊢; exact H)
      (try rw [hji17] at A4)
      (try rw [hji17] at A5)
      (try rw [hji17] at A6)
      have hji17_ : (IntKind.i64.wrap (t516 * 2 ^ min (ji15).toNat 64)) = ji17 := hji17
      have hji17z : (ji15) ≤ 64 → (IntKind.i64.wrap (t516 * 2 ^ (ji15).toNat)) = ji17 := shl_small hji17
      have hji17y : (wrap64 (t516 * 2 ^ min (ji15).toNat 64)) = ji17 := (i64_w _).symm.trans hji17_
      have hji17x : (ji15) ≤ 64 → (wrap64 (t516 * 2 ^ (ji15).toNat)) = ji17 := fun h_ => (i64_w _).symm.trans (hji17z h_)
      obtain ⟨ji18, hji18⟩ : ∃ j_ : Int, (IntKind.u64.wrap (wrap64 (t519 - (ji8)))) = j_ := ⟨_, rfl⟩
      replace H : (if 0 ≤ (ji18) then (if 0 ≤ (IntKind.u64.wrap (wrap64 (t521 - (ji8)))) then (some (((wrap64 ((ji17) + (shl .i64 t518 (ji18)))) == (shl .i64 t520 (IntKind.u64.wrap (wrap64 (t521 - (ji8)))))), true)) else (none)) else (none)) = some (r1, r2) := by first | (rw [hji18] at H; exact H) | (simp only [hji18] at H ⊢; exact H)
      (try rw [hji18] at A4)
      (try rw [hji18] at A5)
      (try rw [hji18] at A6)
      by_cases c19 : 0 ≤ (ji18)
      · rw [if_pos c19] at H
        have c19b0 := eq_true c19
        have c19b1 : decide (0 ≤ (ji18)) = true := decide_eq_true c19
        clear c19
        obtain ⟨ji20, hji20⟩ : ∃ j_ : Int, (shl .i64 t518 (ji18)) = j_ := ⟨_, rfl⟩
        replace H : (if 0 ≤ (IntKind.u64.wrap (wrap64 (t521 - (ji8)))) then (some (((wrap64 ((ji17) + (ji20))) == (shl .i64 t520 (IntKind.u64.wrap (wrap64 (t521 - (ji8)))))), true)) else (none)) = some (r1, r2) := by first | (rw [hji20] at H; exact H) | (simp only [hji20] at H ⊢; exact H)
        (try rw [hji20] at A4)
        (try rw [hji20] at A5)
        (try rw [hji20] at A6)
        have hji20_ : (IntKind.i64.wrap (t518 * 2 ^ min (ji18).toNat 64)) = ji20 := hji20
        have hji20z : (ji18) ≤ 64 → (IntKind.i64.wrap (t518 * 2 ^ (ji18).toNat)) = ji20 := shl_small hji20
        have hji20y : (wrap64 (t518 * 2 ^ min (ji18).toNat 64)) = ji20 := (i64_w _).symm.trans hji20_
        have hji20x : (ji18) ≤ 64 → (wrap64 (t518 * 2 ^ (ji18).toNat)) = ji20 := fun h_ => (i64_w _).symm.trans (hji20z h_)
        obtain ⟨ji21, hji21⟩ : ∃ j_ : Int, (IntKind.u64.wrap (wrap64 (t521 - (ji8)))) = j_ := ⟨_, rfl⟩
        replace H : (if 0 ≤ (ji21) then (some (((wrap64 ((ji17) + (ji20))) == (shl .i64 t520 (ji21))), true)) else (none)) = some (r1, r2) := by first | (rw [hji21] at H; exact H) | (simp only [hji21] at H ⊢; exact H)
        (try rw [hji21] at A4)
        (try rw [hji21] at A5)
        (try rw [hji21] at A6)
        by_cases c22 : 0 ≤ (ji21)
        · rw [if_pos c22] at H
          have c22b0 := eq_true c22
          have c22b1 : decide (0 ≤ (ji21)) = true := decide_eq_true c22
          clear c22
          obtain ⟨ji23, hji23⟩ : ∃ j_ : Int, (shl .i64 t520 (ji21)) = j_ := ⟨_, rfl⟩
          replace H : (some (((wrap64 ((ji17) + (ji20))) == (ji23)), true)) = some (r1, r2) := by first | (rw [hji23] at H; exact H) | (simp only [hji23] at H ⊢; exact H)
          (try rw [hji23] at A4)
          (try rw [hji23] at A5)
          (try rw [hji23] at A6)
          have hji23_ : (IntKind.i64.wrap (t520 * 2 ^ min (ji21).toNat 64)) = ji23 := hji23
          have hji23z : (ji21) ≤ 64 → (IntKind.i64.wrap (t520 * 2 ^ (ji21).toNat)) = ji23 := shl_small hji23
          have hji23y : (wrap64 (t520 * 2 ^ min (ji21).toNat 64)) = ji23 := (i64_w _).symm.trans hji23_
          have hji23x : (ji21) ≤ 64 → (wrap64 (t520 * 2 ^ (ji21).toNat)) = ji23 := fun h_ => (i64_w _).symm.trans (hji23z h_)
          simp only [Option.some.injEq, Prod.mk.injEq] at H
          obtain ⟨rfl, rfl⟩ := H
          go_enter Try.func71, Try.ntmps71
          go_wp2_with (first | ((with_reducible refine gate_callee (f := 57) rfl ?_); refine goesL_ (some 17) rfl rfl Try.func57 (by kernel_rfl) rfl #[.int .u32 a1] rfl (by (try simp only [List.map_toArray, List.map_cons, List.map_nil]); first | done | rfl | (simp only [List.length_drop, List.length_take]; rfl)) ?_; (with_reducible refine (lathelaw02_parts.calls a1 t516 t517 _ A4.out).mono ?_); rintro e w24 ⟨rfl, hb⟩; refine ⟨_, rfl, ?_⟩; have n0_ := Aside0.mk (below_step (by repeat (first | (with_reducible first | exact HB.out | apply below_alloc | apply pw_below_drewN | apply below_drew1) | exact HB.out)) hb); clear HB; have HB := n0_; clear n0_; (try clear hb); (try clear hb2); (try clear hk); (try clear hi)) | ((with_reducible refine gate_callee (f := 57) rfl ?_); refine goesL_ (some 22) rfl rfl Try.func57 (by kernel_rfl) rfl #[.int .u32 a2] rfl (by (try simp only [List.map_toArray, List.map_cons, List.map_nil]); first | done | rfl | (simp only [List.length_drop, List.length_take]; rfl)) ?_; (with_reducible refine (lathelaw02_parts.calls a2 t518 t519 _ A5.out).mono ?_); rintro e w25 ⟨rfl, hb⟩; refine ⟨_, rfl, ?_⟩; have n0_ := Aside0.mk (below_step (by repeat (first | (with_reducible first | exact HB.out | apply below_alloc | apply pw_below_drewN | apply below_drew1) | exact HB.out)) hb); clear HB; have HB := n0_; clear n0_; (try clear hb); (try clear hb2); (try clear hk); (try clear hi)) | ((with_reducible refine gate_callee (f := 57) rfl ?_); refine goesL_ (some 27) rfl rfl Try.func57 (by kernel_rfl) rfl #[.int .u32 a0] rfl (by (try simp only [List.map_toArray, List.map_cons, List.map_nil]); first | done | rfl | (simp only [List.length_drop, List.length_take]; rfl)) ?_; (with_reducible refine (lathelaw02_parts.calls a0 t520 t521 _ A6.out).mono ?_); rintro e w26 ⟨rfl, hb⟩; refine ⟨_, rfl, ?_⟩; have n0_ := Aside0.mk (below_step (by repeat (first | (with_reducible first | exact HB.out | apply below_alloc | apply pw_below_drewN | apply below_drew1) | exact HB.out)) hb); clear HB; have HB := n0_; clear n0_; (try clear hb); (try clear hb2); (try clear hk); (try clear hi)))
          go_ret2
          exact ⟨by first | rfl | (simp [errW_none, errW_some] <;> rfl) | (simp only [← hji7, ← hji8, ← hji9, ← hji10, ← hji15, ← hji17, ← hji18, ← hji20, ← hji21, ← hji23]; first | rfl | (simp [errW_none, errW_some] <;> rfl)) | (simp [*, errW_none, errW_some] <;> rfl), by repeat (first | (with_reducible first | exact HB.out | apply below_alloc | apply pw_below_drewN | apply below_drew1) | exact HB.out)⟩
        · rw [if_neg c22] at H
          exact absurd H (by simp)
      · rw [if_neg c19] at H
        exact absurd H (by simp)
    · rw [if_neg c16] at H
      exact absurd H (by simp)

/-! ### lathelaw02_FloatSterbenz: function 19 -/
mutual
def lathelaw02_FloatSterbenz.j0 : Nat → Int → Int → Bool → Option (Bool)
  | 0, _, _, _ => none
  | k + 1, x0, x1, x26 => if x26 = true then ((lathelaw02_works.f).bind fun t526 => (some t526)) else ((float_Abs.f x0).bind fun t527 => ((float_Abs.f x1).bind fun t528 => ((float_Add.f t527 t527).bind fun t529 => ((float_Less.f t529 t528).bind fun t530 => (if t530 = true then (lathelaw02_FloatSterbenz.j1 k x0 x1 true) else ((float_Add.f t528 t528).bind fun t531 => ((float_Less.f t531 t527).bind fun t532 => (lathelaw02_FloatSterbenz.j1 k x0 x1 t532))))))))
def lathelaw02_FloatSterbenz.j1 : Nat → Int → Int → Bool → Option (Bool)
  | 0, _, _, _ => none
  | k + 1, x0, x1, x43 => if x43 = true then ((lathelaw02_works.f).bind fun t533 => (some t533)) else ((float_Sub.f x0 x1).bind fun t534 => ((lathelaw02_exact.f x0 t534 x1).bind fun bt535 => ((float_Finite.f t534).bind fun t537 => (if t537 = true then (if bt535.2 = true then (if bt535.1 = true then ((lathelaw02_works.f).bind fun t538 => (some t538)) else (some false)) else ((lathelaw02_works.f).bind fun t539 => (some t539))) else (some false)))))
end
def lathelaw02_FloatSterbenz.f (k : Nat) (a0 : Int) (a1 : Int) : Option (Bool) := (float_Finite.f a0).bind fun t522 => (if t522 = true then ((float_Finite.f a1).bind fun t523 => (if t523 = true then ((lathelaw02_n.f a0).bind fun t524 => ((lathelaw02_n.f a1).bind fun t525 => (lathelaw02_FloatSterbenz.j0 k a0 a1 ((t524 / 2147483648) != (t525 / 2147483648))))) else (lathelaw02_FloatSterbenz.j0 k a0 a1 true))) else (lathelaw02_FloatSterbenz.j0 k a0 a1 true))
theorem lathelaw02_FloatSterbenz.mono_l : ∀ k, (∀ y0 y1 y2, LeO (lathelaw02_FloatSterbenz.j0 k y0 y1 y2) (lathelaw02_FloatSterbenz.j0 (k + 1) y0 y1 y2)) ∧ (∀ y0 y1 y2, LeO (lathelaw02_FloatSterbenz.j1 k y0 y1 y2) (lathelaw02_FloatSterbenz.j1 (k + 1) y0 y1 y2))
  | 0 => ⟨fun _ _ _ r h => by simp [lathelaw02_FloatSterbenz.j0] at h, fun _ _ _ r h => by simp [lathelaw02_FloatSterbenz.j1] at h⟩
  | k + 1 => by
    obtain ⟨ih0, ih1⟩ := lathelaw02_FloatSterbenz.mono_l k
    refine ⟨?_, ?_⟩
    · intro y0 y1 y2
      unfold lathelaw02_FloatSterbenz.j0
      repeat' first
      | (with_reducible exact ih0 _ _ _)
      | (with_reducible exact ih1 _ _ _)
      | (with_reducible exact LeO.refl _)
      | (with_reducible exact LeO.none _)
      | (with_reducible refine LeO.ite ?_ ?_)
      | (with_reducible refine LeO.bind ?_ (fun _ => ?_))
      | exact ih0 _ _ _
      | exact ih1 _ _ _
      | exact LeO.none _
      | refine LeO.ite ?_ ?_
      | refine LeO.bind ?_ (fun _ => ?_)
    · intro y0 y1 y2
      unfold lathelaw02_FloatSterbenz.j1
      repeat' first
      | (with_reducible exact ih0 _ _ _)
      | (with_reducible exact ih1 _ _ _)
      | (with_reducible exact LeO.refl _)
      | (with_reducible exact LeO.none _)
      | (with_reducible refine LeO.ite ?_ ?_)
      | (with_reducible refine LeO.bind ?_ (fun _ => ?_))
      | exact ih0 _ _ _
      | exact ih1 _ _ _
      | exact LeO.none _
      | refine LeO.ite ?_ ?_
      | refine LeO.bind ?_ (fun _ => ?_)
theorem lathelaw02_FloatSterbenz.mono : ∀ a0 a1 k, LeO (lathelaw02_FloatSterbenz.f k a0 a1) (lathelaw02_FloatSterbenz.f (k + 1) a0 a1) := by
  intro a0 a1 k
  obtain ⟨ih0, ih1⟩ := lathelaw02_FloatSterbenz.mono_l k
  unfold lathelaw02_FloatSterbenz.f
  repeat' first
      | (with_reducible exact ih0 _ _ _)
      | (with_reducible exact ih1 _ _ _)
      | (with_reducible exact LeO.refl _)
      | (with_reducible exact LeO.none _)
      | (with_reducible refine LeO.ite ?_ ?_)
      | (with_reducible refine LeO.bind ?_ (fun _ => ?_))
      | exact ih0 _ _ _
      | exact ih1 _ _ _
      | exact LeO.none _
      | refine LeO.ite ?_ ?_
      | refine LeO.bind ?_ (fun _ => ?_)
set_option maxHeartbeats 8000000 in
set_option maxRecDepth 100000 in
theorem lathelaw02_FloatSterbenz.calls (k : Nat) (a0 : Int) (a1 : Int) (r : Bool) (w : World) (h : lathelaw02_FloatSterbenz.f k a0 a1 = some r) :
    Calls Try.prog 19 #[.int .u32 a0, .int .u32 a1] w fun e w' => e = .returned (.bool r) ∧ Below w.heap.size w w' := by
  have HB := Aside0.mk (Below.refl w.heap.size w)
  have H : ((float_Finite.f a0).bind fun t522 => (if t522 = true then ((float_Finite.f a1).bind fun t523 => (if t523 = true then ((lathelaw02_n.f a0).bind fun t524 => ((lathelaw02_n.f a1).bind fun t525 => (lathelaw02_FloatSterbenz.j0 k a0 a1 ((t524 / 2147483648) != (t525 / 2147483648))))) else (lathelaw02_FloatSterbenz.j0 k a0 a1 true))) else (lathelaw02_FloatSterbenz.j0 k a0 a1 true))) = some r := h
  clear h
  have HC3 := Aside0.mk H
  clear H
  go_enter Try.func19, Try.ntmps19
  go_upto_region 1 with (fail)
  go_cut [26] (fun v26 wc => ∃ (kq : Nat) (x26_2 : Bool), v26 = .bool x26_2 ∧ Aside0 (lathelaw02_FloatSterbenz.j0 kq a0 a1 x26_2 = some r) ∧ Aside0 (kq ≤ k) ∧ Aside0 (Below w.heap.size w wc))
  case first =>
    have H := HC3.out
    clear HC3
    replace H := Option.bind_eq_some_iff.mp H
    obtain ⟨t522, A40, H⟩ := H
    replace H : (if t522 = true then ((float_Finite.f a1).bind fun t523 => (if t523 = true then ((lathelaw02_n.f a0).bind fun t524 => ((lathelaw02_n.f a1).bind fun t525 => (lathelaw02_FloatSterbenz.j0 k a0 a1 ((t524 / 2147483648) != (t525 / 2147483648))))) else (lathelaw02_FloatSterbenz.j0 k a0 a1 true))) else (lathelaw02_FloatSterbenz.j0 k a0 a1 true)) = some r := H
    have A4 := Aside0.mk A40
    clear A40
    by_cases c5 : t522 = true
    · subst c5
      have H1 : ((float_Finite.f a1).bind fun t523 => (if t523 = true then ((lathelaw02_n.f a0).bind fun t524 => ((lathelaw02_n.f a1).bind fun t525 => (lathelaw02_FloatSterbenz.j0 k a0 a1 ((t524 / 2147483648) != (t525 / 2147483648))))) else (lathelaw02_FloatSterbenz.j0 k a0 a1 true))) = some r := by rw [if_pos rfl] at H; exact H
      clear H
      have H := H1
      clear H1
      replace H := Option.bind_eq_some_iff.mp H
      obtain ⟨t523, A60, H⟩ := H
      replace H : (if t523 = true then ((lathelaw02_n.f a0).bind fun t524 => ((lathelaw02_n.f a1).bind fun t525 => (lathelaw02_FloatSterbenz.j0 k a0 a1 ((t524 / 2147483648) != (t525 / 2147483648))))) else (lathelaw02_FloatSterbenz.j0 k a0 a1 true)) = some r := H
      have A6 := Aside0.mk A60
      clear A60
      by_cases c7 : t523 = true
      · subst c7
        have H1 : ((lathelaw02_n.f a0).bind fun t524 => ((lathelaw02_n.f a1).bind fun t525 => (lathelaw02_FloatSterbenz.j0 k a0 a1 ((t524 / 2147483648) != (t525 / 2147483648))))) = some r := by rw [if_pos rfl] at H; exact H
        clear H
        have H := H1
        clear H1
        replace H := Option.bind_eq_some_iff.mp H
        obtain ⟨t524, A80, H⟩ := H
        replace H : ((lathelaw02_n.f a1).bind fun t525 => (lathelaw02_FloatSterbenz.j0 k a0 a1 ((t524 / 2147483648) != (t525 / 2147483648)))) = some r := H
        have A8 := Aside0.mk A80
        clear A80
        replace H := Option.bind_eq_some_iff.mp H
        obtain ⟨t525, A90, H⟩ := H
        replace H : (lathelaw02_FloatSterbenz.j0 k a0 a1 ((t524 / 2147483648) != (t525 / 2147483648))) = some r := H
        have A9 := Aside0.mk A90
        clear A90
        have H' := Aside0.mk H
        clear H
        go_wp2_with (first | ((with_reducible refine gate_callee (f := 58) rfl ?_); refine goesL_ (some 11) rfl rfl Try.func58 (by kernel_rfl) rfl #[.int .u32 a0] rfl (by (try simp only [List.map_toArray, List.map_cons, List.map_nil]); first | done | rfl | (simp only [List.length_drop, List.length_take]; rfl)) ?_; (with_reducible refine (float_Finite.calls a0 true _ A4.out).mono ?_); rintro e w' ⟨rfl, ⟨nd, rfl⟩⟩; refine ⟨_, rfl, ?_⟩) | (go_at_call 58; (with_reducible refine (float_Finite.calls a1 true _ A6.out).mono ?_); clear A6; rintro e w' ⟨rfl, ⟨nd, rfl⟩⟩) | (go_at_call 47; (with_reducible refine (lathelaw02_n.calls a0 t524 _ A8.out).mono ?_); clear A8; rintro e w' ⟨rfl, ⟨nd, rfl⟩⟩) | (go_at_call 47; (with_reducible refine (lathelaw02_n.calls a1 t525 _ A9.out).mono ?_); clear A9; rintro e w' ⟨rfl, ⟨nd, rfl⟩⟩))
        go_meet
        case rel => exact ⟨_, (((t524 / 2147483648) != (t525 / 2147483648))), (by first | rfl | (simp; done) | (simp [*]; done)), H', ⟨by first | omega | exact Nat.le_refl _⟩, ⟨by repeat (first | (with_reducible first | exact HB.out | apply below_alloc | apply pw_below_drewN | apply below_drew1) | exact HB.out)⟩⟩
      · replace c7 := Bool.eq_false_iff.mpr c7
        subst c7
        have H1 : (lathelaw02_FloatSterbenz.j0 k a0 a1 true) = some r := by rw [if_neg (show ¬ (false = true) by decide)] at H; exact H
        clear H
        have H := H1
        clear H1
        have H' := Aside0.mk H
        clear H
        go_wp2_with (first | ((with_reducible refine gate_callee (f := 58) rfl ?_); refine goesL_ (some 11) rfl rfl Try.func58 (by kernel_rfl) rfl #[.int .u32 a0] rfl (by (try simp only [List.map_toArray, List.map_cons, List.map_nil]); first | done | rfl | (simp only [List.length_drop, List.length_take]; rfl)) ?_; (with_reducible refine (float_Finite.calls a0 true _ A4.out).mono ?_); rintro e w' ⟨rfl, ⟨nd, rfl⟩⟩; refine ⟨_, rfl, ?_⟩) | (go_at_call 58; (with_reducible refine (float_Finite.calls a1 false _ A6.out).mono ?_); clear A6; rintro e w' ⟨rfl, ⟨nd, rfl⟩⟩))
        go_meet
        case rel => exact ⟨_, (true), (by first | rfl | (simp; done) | (simp [*]; done)), H', ⟨by first | omega | exact Nat.le_refl _⟩, ⟨by repeat (first | (with_reducible first | exact HB.out | apply below_alloc | apply pw_below_drewN | apply below_drew1) | exact HB.out)⟩⟩
    · replace c5 := Bool.eq_false_iff.mpr c5
      subst c5
      have H1 : (lathelaw02_FloatSterbenz.j0 k a0 a1 true) = some r := by rw [if_neg (show ¬ (false = true) by decide)] at H; exact H
      clear H
      have H := H1
      clear H1
      have H' := Aside0.mk H
      clear H
      go_wp2_with (first | ((with_reducible refine gate_callee (f := 58) rfl ?_); refine goesL_ (some 11) rfl rfl Try.func58 (by kernel_rfl) rfl #[.int .u32 a0] rfl (by (try simp only [List.map_toArray, List.map_cons, List.map_nil]); first | done | rfl | (simp only [List.length_drop, List.length_take]; rfl)) ?_; (with_reducible refine (float_Finite.calls a0 false _ A4.out).mono ?_); rintro e w' ⟨rfl, ⟨nd, rfl⟩⟩; refine ⟨_, rfl, ?_⟩))
      go_meet
      case rel => exact ⟨_, (true), (by first | rfl | (simp; done) | (simp [*]; done)), H', ⟨by first | omega | exact Nat.le_refl _⟩, ⟨by repeat (first | (with_reducible first | exact HB.out | apply below_alloc | apply pw_below_drewN | apply below_drew1) | exact HB.out)⟩⟩
  case rest =>
    clear HC3
    try clear c1
    try clear p2
    try clear c5
    try clear c7
    obtain ⟨kq, x26_2, rfl, HA, HJ2, HB⟩ := hcut
    cases kq with
    | zero => exact absurd HA.out (by simp [lathelaw02_FloatSterbenz.j0])
    | succ kj2 =>
      have H := HA.out
      clear HA
      simp only [lathelaw02_FloatSterbenz.j0] at H
      by_cases c10 : x26_2 = true
      · subst c10
        have H1 : ((lathelaw02_works.f).bind fun t526 => (some t526)) = some r := by rw [if_pos rfl] at H; exact H
        clear H
        have H := H1
        clear H1
        replace H := Option.bind_eq_some_iff.mp H
        obtain ⟨t526, A110, H⟩ := H
        replace H : (some t526) = some r := H
        have A11 := Aside0.mk A110
        clear A110
        obtain rfl := Option.some.inj H
        go_wp2_with (first | ((with_reducible refine gate_callee (f := 50) rfl ?_); refine goesL_ (some 27) rfl rfl Try.func50 (by kernel_rfl) rfl #[] rfl (by (try simp only [List.map_toArray, List.map_cons, List.map_nil]); first | done | rfl | (simp only [List.length_drop, List.length_take]; rfl)) ?_; (with_reducible refine (lathelaw02_works.calls  t526 _ A11.out).mono ?_); rintro e w' ⟨rfl, ⟨nd, rfl⟩⟩; refine ⟨_, rfl, ?_⟩))
        go_ret
        exact ⟨by first | rfl | (simp [errW_none, errW_some] <;> rfl) | (simp [*, errW_none, errW_some] <;> rfl), by repeat (first | (with_reducible first | exact HB.out | apply below_alloc | apply pw_below_drewN | apply below_drew1) | exact HB.out)⟩
      · replace c10 := Bool.eq_false_iff.mpr c10
        subst c10
        have H1 : ((float_Abs.f a0).bind fun t527 => ((float_Abs.f a1).bind fun t528 => ((float_Add.f t527 t527).bind fun t529 => ((float_Less.f t529 t528).bind fun t530 => (if t530 = true then (lathelaw02_FloatSterbenz.j1 kj2 a0 a1 true) else ((float_Add.f t528 t528).bind fun t531 => ((float_Less.f t531 t527).bind fun t532 => (lathelaw02_FloatSterbenz.j1 kj2 a0 a1 t532)))))))) = some r := by rw [if_neg (show ¬ (false = true) by decide)] at H; exact H
        clear H
        have H := H1
        clear H1
        replace H := Option.bind_eq_some_iff.mp H
        obtain ⟨t527, A120, H⟩ := H
        replace H : ((float_Abs.f a1).bind fun t528 => ((float_Add.f t527 t527).bind fun t529 => ((float_Less.f t529 t528).bind fun t530 => (if t530 = true then (lathelaw02_FloatSterbenz.j1 kj2 a0 a1 true) else ((float_Add.f t528 t528).bind fun t531 => ((float_Less.f t531 t527).bind fun t532 => (lathelaw02_FloatSterbenz.j1 kj2 a0 a1 t532))))))) = some r := H
        have A12 := Aside0.mk A120
        clear A120
        replace H := Option.bind_eq_some_iff.mp H
        obtain ⟨t528, A130, H⟩ := H
        replace H : ((float_Add.f t527 t527).bind fun t529 => ((float_Less.f t529 t528).bind fun t530 => (if t530 = true then (lathelaw02_FloatSterbenz.j1 kj2 a0 a1 true) else ((float_Add.f t528 t528).bind fun t531 => ((float_Less.f t531 t527).bind fun t532 => (lathelaw02_FloatSterbenz.j1 kj2 a0 a1 t532)))))) = some r := H
        have A13 := Aside0.mk A130
        clear A130
        have HC14 := Aside0.mk H
        clear H
        go_upto_region 4 with (first | ((with_reducible refine gate_callee (f := 64) rfl ?_); refine goesL_ (some 29) rfl rfl Try.func64 (by kernel_rfl) rfl #[.int .u32 a0] rfl (by (try simp only [List.map_toArray, List.map_cons, List.map_nil]); first | done | rfl | (simp only [List.length_drop, List.length_take]; rfl)) ?_; (with_reducible refine (float_Abs.calls a0 t527 _ A12.out).mono ?_); rintro e w' ⟨rfl, ⟨nd, rfl⟩⟩; refine ⟨_, rfl, ?_⟩) | ((with_reducible refine gate_callee (f := 64) rfl ?_); refine goesL_ (some 31) rfl rfl Try.func64 (by kernel_rfl) rfl #[.int .u32 a1] rfl (by (try simp only [List.map_toArray, List.map_cons, List.map_nil]); first | done | rfl | (simp only [List.length_drop, List.length_take]; rfl)) ?_; (with_reducible refine (float_Abs.calls a1 t528 _ A13.out).mono ?_); rintro e w' ⟨rfl, ⟨nd, rfl⟩⟩; refine ⟨_, rfl, ?_⟩))
        (try simp only [Act.put, List.setIfInBounds_toArray, List.set_cons_zero, List.set_cons_succ])
        go_cut [43] (fun v43 wc => ∃ (kq : Nat) (x43_13 : Bool), v43 = .bool x43_13 ∧ Aside0 (lathelaw02_FloatSterbenz.j1 kq a0 a1 x43_13 = some r) ∧ Aside0 (kq ≤ kj2) ∧ Aside0 (Below w.heap.size w wc))
        case first =>
          have H := HC14.out
          clear HC14
          replace H := Option.bind_eq_some_iff.mp H
          obtain ⟨t529, A150, H⟩ := H
          replace H : ((float_Less.f t529 t528).bind fun t530 => (if t530 = true then (lathelaw02_FloatSterbenz.j1 kj2 a0 a1 true) else ((float_Add.f t528 t528).bind fun t531 => ((float_Less.f t531 t527).bind fun t532 => (lathelaw02_FloatSterbenz.j1 kj2 a0 a1 t532))))) = some r := H
          have A15 := Aside0.mk A150
          clear A150
          replace H := Option.bind_eq_some_iff.mp H
          obtain ⟨t530, A160, H⟩ := H
          replace H : (if t530 = true then (lathelaw02_FloatSterbenz.j1 kj2 a0 a1 true) else ((float_Add.f t528 t528).bind fun t531 => ((float_Less.f t531 t527).bind fun t532 => (lathelaw02_FloatSterbenz.j1 kj2 a0 a1 t532)))) = some r := H
          have A16 := Aside0.mk A160
          clear A160
          by_cases c17 : t530 = true
          · subst c17
            have H1 : (lathelaw02_FloatSterbenz.j1 kj2 a0 a1 true) = some r := by rw [if_pos rfl] at H; exact H
            clear H
            have H := H1
            clear H1
            have H' := Aside0.mk H
            clear H
            go_wp2_with (first | ((with_reducible refine gate_callee (f := 53) rfl ?_); refine goesL_ (some 34) rfl rfl Try.func53 (by kernel_rfl) rfl #[.int .u32 t527, .int .u32 t527] rfl (by (try simp only [List.map_toArray, List.map_cons, List.map_nil]); first | done | rfl | (simp only [List.length_drop, List.length_take]; rfl)) ?_; (with_reducible refine (float_Add.calls t527 t527 t529 _ A15.out).mono ?_); rintro e w' ⟨rfl, ⟨nd, rfl⟩⟩; refine ⟨_, rfl, ?_⟩) | ((with_reducible refine gate_callee (f := 67) rfl ?_); refine goesL_ (some 36) rfl rfl Try.func67 (by kernel_rfl) rfl #[.int .u32 t529, .int .u32 t528] rfl (by (try simp only [List.map_toArray, List.map_cons, List.map_nil]); first | done | rfl | (simp only [List.length_drop, List.length_take]; rfl)) ?_; (with_reducible refine (float_Less.calls t529 t528 true _ A16.out).mono ?_); rintro e w' ⟨rfl, ⟨nd, rfl⟩⟩; refine ⟨_, rfl, ?_⟩))
            go_meet
            case rel => exact ⟨_, (true), (by first | rfl | (simp; done) | (simp [*]; done)), H', ⟨by have := HJ2.out; first | omega | exact Nat.le_refl _⟩, ⟨by repeat (first | (with_reducible first | exact HB.out | apply below_alloc | apply pw_below_drewN | apply below_drew1) | exact HB.out)⟩⟩
          · replace c17 := Bool.eq_false_iff.mpr c17
            subst c17
            have H1 : ((float_Add.f t528 t528).bind fun t531 => ((float_Less.f t531 t527).bind fun t532 => (lathelaw02_FloatSterbenz.j1 kj2 a0 a1 t532))) = some r := by rw [if_neg (show ¬ (false = true) by decide)] at H; exact H
            clear H
            have H := H1
            clear H1
            replace H := Option.bind_eq_some_iff.mp H
            obtain ⟨t531, A180, H⟩ := H
            replace H : ((float_Less.f t531 t527).bind fun t532 => (lathelaw02_FloatSterbenz.j1 kj2 a0 a1 t532)) = some r := H
            have A18 := Aside0.mk A180
            clear A180
            replace H := Option.bind_eq_some_iff.mp H
            obtain ⟨t532, A190, H⟩ := H
            replace H : (lathelaw02_FloatSterbenz.j1 kj2 a0 a1 t532) = some r := H
            have A19 := Aside0.mk A190
            clear A190
            have H' := Aside0.mk H
            clear H
            go_wp2_with (first | ((with_reducible refine gate_callee (f := 53) rfl ?_); refine goesL_ (some 34) rfl rfl Try.func53 (by kernel_rfl) rfl #[.int .u32 t527, .int .u32 t527] rfl (by (try simp only [List.map_toArray, List.map_cons, List.map_nil]); first | done | rfl | (simp only [List.length_drop, List.length_take]; rfl)) ?_; (with_reducible refine (float_Add.calls t527 t527 t529 _ A15.out).mono ?_); rintro e w' ⟨rfl, ⟨nd, rfl⟩⟩; refine ⟨_, rfl, ?_⟩) | ((with_reducible refine gate_callee (f := 67) rfl ?_); refine goesL_ (some 36) rfl rfl Try.func67 (by kernel_rfl) rfl #[.int .u32 t529, .int .u32 t528] rfl (by (try simp only [List.map_toArray, List.map_cons, List.map_nil]); first | done | rfl | (simp only [List.length_drop, List.length_take]; rfl)) ?_; (with_reducible refine (float_Less.calls t529 t528 false _ A16.out).mono ?_); rintro e w' ⟨rfl, ⟨nd, rfl⟩⟩; refine ⟨_, rfl, ?_⟩) | (go_at_call 53; (with_reducible refine (float_Add.calls t528 t528 t531 _ A18.out).mono ?_); clear A18; rintro e w' ⟨rfl, ⟨nd, rfl⟩⟩) | (go_at_call 67; (with_reducible refine (float_Less.calls t531 t527 t532 _ A19.out).mono ?_); clear A19; rintro e w' ⟨rfl, ⟨nd, rfl⟩⟩))
            go_meet
            case rel => exact ⟨_, (t532), (by first | rfl | (simp; done) | (simp [*]; done)), H', ⟨by have := HJ2.out; first | omega | exact Nat.le_refl _⟩, ⟨by repeat (first | (with_reducible first | exact HB.out | apply below_alloc | apply pw_below_drewN | apply below_drew1) | exact HB.out)⟩⟩
        case rest =>
          clear HC14
          try clear c1
          try clear p2
          try clear c5
          try clear c6
          try clear c7
          try clear c10
          try clear c17
          try clear c19
          try clear p2
          obtain ⟨kq, x43_13, rfl, HA, HJ13, HB⟩ := hcut
          cases kq with
          | zero => exact absurd HA.out (by simp [lathelaw02_FloatSterbenz.j1])
          | succ kj13 =>
            have H := HA.out
            clear HA
            simp only [lathelaw02_FloatSterbenz.j1] at H
            by_cases c20 : x43_13 = true
            · subst c20
              have H1 : ((lathelaw02_works.f).bind fun t533 => (some t533)) = some r := by rw [if_pos rfl] at H; exact H
              clear H
              have H := H1
              clear H1
              replace H := Option.bind_eq_some_iff.mp H
              obtain ⟨t533, A210, H⟩ := H
              replace H : (some t533) = some r := H
              have A21 := Aside0.mk A210
              clear A210
              obtain rfl := Option.some.inj H
              go_wp2_with (first | ((with_reducible refine gate_callee (f := 50) rfl ?_); refine goesL_ (some 44) rfl rfl Try.func50 (by kernel_rfl) rfl #[] rfl (by (try simp only [List.map_toArray, List.map_cons, List.map_nil]); first | done | rfl | (simp only [List.length_drop, List.length_take]; rfl)) ?_; (with_reducible refine (lathelaw02_works.calls  t533 _ A21.out).mono ?_); rintro e w' ⟨rfl, ⟨nd, rfl⟩⟩; refine ⟨_, rfl, ?_⟩))
              go_ret
              exact ⟨by first | rfl | (simp [errW_none, errW_some] <;> rfl) | (simp [*, errW_none, errW_some] <;> rfl), by repeat (first | (with_reducible first | exact HB.out | apply below_alloc | apply pw_below_drewN | apply below_drew1) | exact HB.out)⟩
            · replace c20 := Bool.eq_false_iff.mpr c20
              subst c20
              have H1 : ((float_Sub.f a0 a1).bind fun t534 => ((lathelaw02_exact.f a0 t534 a1).bind fun bt535 => ((float_Finite.f t534).bind fun t537 => (if t537 = true then (if bt535.2 = true then (if bt535.1 = true then ((lathelaw02_works.f).bind fun t538 => (some t538)) else (some false)) else ((lathelaw02_works.f).bind fun t539 => (some t539))) else (some false))))) = some r := by rw [if_neg (show ¬ (false = true) by decide)] at H; exact H
              clear H
              have H := H1
              clear H1
              replace H := Option.bind_eq_some_iff.mp H
              obtain ⟨t534, A220, H⟩ := H
              replace H : ((lathelaw02_exact.f a0 t534 a1).bind fun bt535 => ((float_Finite.f t534).bind fun t537 => (if t537 = true then (if bt535.2 = true then (if bt535.1 = true then ((lathelaw02_works.f).bind fun t538 => (some t538)) else (some false)) else ((lathelaw02_works.f).bind fun t539 => (some t539))) else (some false)))) = some r := H
              have A22 := Aside0.mk A220
              clear A220
              replace H := Option.bind_eq_some_iff.mp H
              obtain ⟨⟨t535, t536⟩, A230, H⟩ := H
              replace H : ((float_Finite.f t534).bind fun t537 => (if t537 = true then (if t536 = true then (if t535 = true then ((lathelaw02_works.f).bind fun t538 => (some t538)) else (some false)) else ((lathelaw02_works.f).bind fun t539 => (some t539))) else (some false))) = some r := H
              have A23 := Aside0.mk A230
              clear A230
              replace H := Option.bind_eq_some_iff.mp H
              obtain ⟨t537, A240, H⟩ := H
              replace H : (if t537 = true then (if t536 = true then (if t535 = true then ((lathelaw02_works.f).bind fun t538 => (some t538)) else (some false)) else ((lathelaw02_works.f).bind fun t539 => (some t539))) else (some false)) = some r := H
              have A24 := Aside0.mk A240
              clear A240
              by_cases c25 : t537 = true
              · subst c25
                have H1 : (if t536 = true then (if t535 = true then ((lathelaw02_works.f).bind fun t538 => (some t538)) else (some false)) else ((lathelaw02_works.f).bind fun t539 => (some t539))) = some r := by rw [if_pos rfl] at H; exact H
                clear H
                have H := H1
                clear H1
                by_cases c26 : t536 = true
                · subst c26
                  have H1 : (if t535 = true then ((lathelaw02_works.f).bind fun t538 => (some t538)) else (some false)) = some r := by rw [if_pos rfl] at H; exact H
                  clear H
                  have H := H1
                  clear H1
                  by_cases c27 : t535 = true
                  · subst c27
                    have H1 : ((lathelaw02_works.f).bind fun t538 => (some t538)) = some r := by rw [if_pos rfl] at H; exact H
                    clear H
                    have H := H1
                    clear H1
                    replace H := Option.bind_eq_some_iff.mp H
                    obtain ⟨t538, A280, H⟩ := H
                    replace H : (some t538) = some r := H
                    have A28 := Aside0.mk A280
                    clear A280
                    obtain rfl := Option.some.inj H
                    go_wp2_with (first | ((with_reducible refine gate_callee (f := 55) rfl ?_); refine goesL_ (some 47) rfl rfl Try.func55 (by kernel_rfl) rfl #[.int .u32 a0, .int .u32 a1] rfl (by (try simp only [List.map_toArray, List.map_cons, List.map_nil]); first | done | rfl | (simp only [List.length_drop, List.length_take]; rfl)) ?_; (with_reducible refine (float_Sub.calls a0 a1 t534 _ A22.out).mono ?_); rintro e w' ⟨rfl, ⟨nd, rfl⟩⟩; refine ⟨_, rfl, ?_⟩) | ((with_reducible refine gate_callee (f := 71) rfl ?_); refine goesL_ (some 52) rfl rfl Try.func71 (by kernel_rfl) rfl #[.int .u32 a0, .int .u32 t534, .int .u32 a1] rfl (by (try simp only [List.map_toArray, List.map_cons, List.map_nil]); first | done | rfl | (simp only [List.length_drop, List.length_take]; rfl)) ?_; (with_reducible refine (lathelaw02_exact.calls a0 t534 a1 true true _ A23.out).mono ?_); rintro e w29 ⟨rfl, hb⟩; refine ⟨_, rfl, ?_⟩; have n0_ := Aside0.mk (below_step (by repeat (first | (with_reducible first | exact HB.out | apply below_alloc | apply pw_below_drewN | apply below_drew1) | exact HB.out)) hb); clear HB; have HB := n0_; clear n0_; (try clear hb); (try clear hb2); (try clear hk); (try clear hi)) | ((with_reducible refine gate_callee (f := 58) rfl ?_); refine goesL_ (some 56) rfl rfl Try.func58 (by kernel_rfl) rfl #[.int .u32 t534] rfl (by (try simp only [List.map_toArray, List.map_cons, List.map_nil]); first | done | rfl | (simp only [List.length_drop, List.length_take]; rfl)) ?_; (with_reducible refine (float_Finite.calls t534 true _ A24.out).mono ?_); rintro e w' ⟨rfl, ⟨nd, rfl⟩⟩; refine ⟨_, rfl, ?_⟩) | (go_at_call 50; (with_reducible refine (lathelaw02_works.calls  t538 _ A28.out).mono ?_); clear A28; rintro e w' ⟨rfl, ⟨nd, rfl⟩⟩))
                    go_ret
                    exact ⟨by first | rfl | (simp [errW_none, errW_some] <;> rfl) | (simp [*, errW_none, errW_some] <;> rfl), by repeat (first | (with_reducible first | exact HB.out | apply below_alloc | apply pw_below_drewN | apply below_drew1) | exact HB.out)⟩
                  · replace c27 := Bool.eq_false_iff.mpr c27
                    subst c27
                    have H1 : (some false) = some r := by rw [if_neg (show ¬ (false = true) by decide)] at H; exact H
                    clear H
                    have H := H1
                    clear H1
                    obtain rfl := Option.some.inj H
                    go_wp2_with (first | ((with_reducible refine gate_callee (f := 55) rfl ?_); refine goesL_ (some 47) rfl rfl Try.func55 (by kernel_rfl) rfl #[.int .u32 a0, .int .u32 a1] rfl (by (try simp only [List.map_toArray, List.map_cons, List.map_nil]); first | done | rfl | (simp only [List.length_drop, List.length_take]; rfl)) ?_; (with_reducible refine (float_Sub.calls a0 a1 t534 _ A22.out).mono ?_); rintro e w' ⟨rfl, ⟨nd, rfl⟩⟩; refine ⟨_, rfl, ?_⟩) | ((with_reducible refine gate_callee (f := 71) rfl ?_); refine goesL_ (some 52) rfl rfl Try.func71 (by kernel_rfl) rfl #[.int .u32 a0, .int .u32 t534, .int .u32 a1] rfl (by (try simp only [List.map_toArray, List.map_cons, List.map_nil]); first | done | rfl | (simp only [List.length_drop, List.length_take]; rfl)) ?_; (with_reducible refine (lathelaw02_exact.calls a0 t534 a1 false true _ A23.out).mono ?_); rintro e w30 ⟨rfl, hb⟩; refine ⟨_, rfl, ?_⟩; have n0_ := Aside0.mk (below_step (by repeat (first | (with_reducible first | exact HB.out | apply below_alloc | apply pw_below_drewN | apply below_drew1) | exact HB.out)) hb); clear HB; have HB := n0_; clear n0_; (try clear hb); (try clear hb2); (try clear hk); (try clear hi)) | ((with_reducible refine gate_callee (f := 58) rfl ?_); refine goesL_ (some 56) rfl rfl Try.func58 (by kernel_rfl) rfl #[.int .u32 t534] rfl (by (try simp only [List.map_toArray, List.map_cons, List.map_nil]); first | done | rfl | (simp only [List.length_drop, List.length_take]; rfl)) ?_; (with_reducible refine (float_Finite.calls t534 true _ A24.out).mono ?_); rintro e w' ⟨rfl, ⟨nd, rfl⟩⟩; refine ⟨_, rfl, ?_⟩))
                    go_ret
                    exact ⟨by first | rfl | (simp [errW_none, errW_some] <;> rfl) | (simp [*, errW_none, errW_some] <;> rfl), by repeat (first | (with_reducible first | exact HB.out | apply below_alloc | apply pw_below_drewN | apply below_drew1) | exact HB.out)⟩
                · replace c26 := Bool.eq_false_iff.mpr c26
                  subst c26
                  have H1 : ((lathelaw02_works.f).bind fun t539 => (some t539)) = some r := by rw [if_neg (show ¬ (false = true) by decide)] at H; exact H
                  clear H
                  have H := H1
                  clear H1
                  replace H := Option.bind_eq_some_iff.mp H
                  obtain ⟨t539, A310, H⟩ := H
                  replace H : (some t539) = some r := H
                  have A31 := Aside0.mk A310
                  clear A310
                  obtain rfl := Option.some.inj H
                  go_wp2_with (first | ((with_reducible refine gate_callee (f := 55) rfl ?_); refine goesL_ (some 47) rfl rfl Try.func55 (by kernel_rfl) rfl #[.int .u32 a0, .int .u32 a1] rfl (by (try simp only [List.map_toArray, List.map_cons, List.map_nil]); first | done | rfl | (simp only [List.length_drop, List.length_take]; rfl)) ?_; (with_reducible refine (float_Sub.calls a0 a1 t534 _ A22.out).mono ?_); rintro e w' ⟨rfl, ⟨nd, rfl⟩⟩; refine ⟨_, rfl, ?_⟩) | ((with_reducible refine gate_callee (f := 71) rfl ?_); refine goesL_ (some 52) rfl rfl Try.func71 (by kernel_rfl) rfl #[.int .u32 a0, .int .u32 t534, .int .u32 a1] rfl (by (try simp only [List.map_toArray, List.map_cons, List.map_nil]); first | done | rfl | (simp only [List.length_drop, List.length_take]; rfl)) ?_; (with_reducible refine (lathelaw02_exact.calls a0 t534 a1 t535 false _ A23.out).mono ?_); rintro e w32 ⟨rfl, hb⟩; refine ⟨_, rfl, ?_⟩; have n0_ := Aside0.mk (below_step (by repeat (first | (with_reducible first | exact HB.out | apply below_alloc | apply pw_below_drewN | apply below_drew1) | exact HB.out)) hb); clear HB; have HB := n0_; clear n0_; (try clear hb); (try clear hb2); (try clear hk); (try clear hi)) | ((with_reducible refine gate_callee (f := 58) rfl ?_); refine goesL_ (some 56) rfl rfl Try.func58 (by kernel_rfl) rfl #[.int .u32 t534] rfl (by (try simp only [List.map_toArray, List.map_cons, List.map_nil]); first | done | rfl | (simp only [List.length_drop, List.length_take]; rfl)) ?_; (with_reducible refine (float_Finite.calls t534 true _ A24.out).mono ?_); rintro e w' ⟨rfl, ⟨nd, rfl⟩⟩; refine ⟨_, rfl, ?_⟩) | (go_at_call 50; (with_reducible refine (lathelaw02_works.calls  t539 _ A31.out).mono ?_); clear A31; rintro e w' ⟨rfl, ⟨nd, rfl⟩⟩))
                  go_ret
                  exact ⟨by first | rfl | (simp [errW_none, errW_some] <;> rfl) | (simp [*, errW_none, errW_some] <;> rfl), by repeat (first | (with_reducible first | exact HB.out | apply below_alloc | apply pw_below_drewN | apply below_drew1) | exact HB.out)⟩
              · replace c25 := Bool.eq_false_iff.mpr c25
                subst c25
                have H1 : (some false) = some r := by rw [if_neg (show ¬ (false = true) by decide)] at H; exact H
                clear H
                have H := H1
                clear H1
                obtain rfl := Option.some.inj H
                go_wp2_with (first | ((with_reducible refine gate_callee (f := 55) rfl ?_); refine goesL_ (some 47) rfl rfl Try.func55 (by kernel_rfl) rfl #[.int .u32 a0, .int .u32 a1] rfl (by (try simp only [List.map_toArray, List.map_cons, List.map_nil]); first | done | rfl | (simp only [List.length_drop, List.length_take]; rfl)) ?_; (with_reducible refine (float_Sub.calls a0 a1 t534 _ A22.out).mono ?_); rintro e w' ⟨rfl, ⟨nd, rfl⟩⟩; refine ⟨_, rfl, ?_⟩) | ((with_reducible refine gate_callee (f := 71) rfl ?_); refine goesL_ (some 52) rfl rfl Try.func71 (by kernel_rfl) rfl #[.int .u32 a0, .int .u32 t534, .int .u32 a1] rfl (by (try simp only [List.map_toArray, List.map_cons, List.map_nil]); first | done | rfl | (simp only [List.length_drop, List.length_take]; rfl)) ?_; (with_reducible refine (lathelaw02_exact.calls a0 t534 a1 t535 t536 _ A23.out).mono ?_); rintro e w33 ⟨rfl, hb⟩; refine ⟨_, rfl, ?_⟩; have n0_ := Aside0.mk (below_step (by repeat (first | (with_reducible first | exact HB.out | apply below_alloc | apply pw_below_drewN | apply below_drew1) | exact HB.out)) hb); clear HB; have HB := n0_; clear n0_; (try clear hb); (try clear hb2); (try clear hk); (try clear hi)) | ((with_reducible refine gate_callee (f := 58) rfl ?_); refine goesL_ (some 56) rfl rfl Try.func58 (by kernel_rfl) rfl #[.int .u32 t534] rfl (by (try simp only [List.map_toArray, List.map_cons, List.map_nil]); first | done | rfl | (simp only [List.length_drop, List.length_take]; rfl)) ?_; (with_reducible refine (float_Finite.calls t534 false _ A24.out).mono ?_); rintro e w' ⟨rfl, ⟨nd, rfl⟩⟩; refine ⟨_, rfl, ?_⟩))
                go_ret
                exact ⟨by first | rfl | (simp [errW_none, errW_some] <;> rfl) | (simp [*, errW_none, errW_some] <;> rfl), by repeat (first | (with_reducible first | exact HB.out | apply below_alloc | apply pw_below_drewN | apply below_drew1) | exact HB.out)⟩

/-- THE ONE PURE STATEMENT of lathelaw02_FloatSterbenz: yours. -/
def lathelaw02_FloatSterbenz.Pure : Prop := ∀ (a0 : Int) (a1 : Int), (Lit.int .u32 a0).wf = true → (Lit.int .u32 a1).wf = true → ∃ k, lathelaw02_FloatSterbenz.f k a0 a1 = some true
theorem lathelaw02_FloatSterbenz.walk (P : lathelaw02_FloatSterbenz.Pure) (a0 : Int) (a1 : Int) (w : World) (w0 : (Lit.int .u32 a0).wf = true) (w1 : (Lit.int .u32 a1).wf = true) :
    Calls Try.prog 19 #[.int .u32 a0, .int .u32 a1] w fun e w' => e = .returned (.bool true) ∧ Below w.heap.size w w' := by
  obtain ⟨k, h⟩ := P a0 a1 w0 w1
  refine (lathelaw02_FloatSterbenz.calls k a0 a1 true w h).mono ?_
  rintro e w' ⟨rfl, hd⟩
  exact ⟨rfl, hd⟩

-- NOT PRINTED: function 90 (pair_pattern)

-- NOT PRINTED: function 84 (pair_told)

-- NOT PRINTED: function 85 (pair_product)

-- NOT PRINTED: function 86 (pair_of)

/-! ### pair_Mul: function 23 (given) -/
def pair_Mul.f (a0_0 : Int) (a0_1 : Int) (a1_0 : Int) (a1_1 : Int) : Option (Int × Int) := some (((Lathe.cmul (a0_0.toNat, a0_1.toNat) (a1_0.toNat, a1_1.toNat)).1 : Nat), ((Lathe.cmul (a0_0.toNat, a0_1.toNat) (a1_0.toNat, a1_1.toNat)).2 : Nat))
theorem pair_Mul.calls (a0_0 : Int) (a0_1 : Int) (a1_0 : Int) (a1_1 : Int) (r1 : Int) (r2 : Int) (w : World) (h : pair_Mul.f a0_0 a0_1 a1_0 a1_1 = some (r1, r2)) :
    Calls Try.prog 23 #[.agg #[.int .u32 a0_0, .int .u32 a0_1], .agg #[.int .u32 a1_0, .int .u32 a1_1]] w fun e w' => e = .returned (.agg #[.int .u32 r1, .int .u32 r2]) ∧ Below w.heap.size w w' := by
  have h := Option.some.inj h
  simp only [Prod.mk.injEq] at h
  obtain ⟨rfl, rfl⟩ := h
  exact Pai.Mul_any a0_0 a0_1 a1_0 a1_1 w


/-! ### latheref04_sub: function 87 -/
def latheref04_sub.f (k : Nat) (a0 : Int) (a1 : Int) : Option (Int) := (latheref02_Sub.f k (wrap64 (a0)) (wrap64 (a1))).bind fun t540 => (some ((t540) % 4294967296))
theorem latheref04_sub.mono : ∀ a0 a1 k, LeO (latheref04_sub.f k a0 a1) (latheref04_sub.f (k + 1) a0 a1) := by
  intro a0 a1 k
  unfold latheref04_sub.f
  repeat' first
      | (with_reducible exact latheref02_Sub.mono _ _ _)
      | (with_reducible exact LeO.refl _)
      | (with_reducible exact LeO.none _)
      | (with_reducible refine LeO.ite ?_ ?_)
      | (with_reducible refine LeO.bind ?_ (fun _ => ?_))
      | exact latheref02_Sub.mono _ _ _
      | exact LeO.none _
      | refine LeO.ite ?_ ?_
      | refine LeO.bind ?_ (fun _ => ?_)
set_option maxHeartbeats 8000000 in
set_option maxRecDepth 100000 in
theorem latheref04_sub.calls (k : Nat) (a0 : Int) (a1 : Int) (r : Int) (w : World) (h : latheref04_sub.f k a0 a1 = some r) :
    Calls Try.prog 87 #[.int .u32 a0, .int .u32 a1] w fun e w' => e = .returned (.int .u32 r) ∧ Below w.heap.size w w' := by
  have HB := Aside0.mk (Below.refl w.heap.size w)
  have H : ((latheref02_Sub.f k (wrap64 (a0)) (wrap64 (a1))).bind fun t540 => (some ((t540) % 4294967296))) = some r := h
  clear h
  replace H := Option.bind_eq_some_iff.mp H
  obtain ⟨t540, A30, H⟩ := H
  replace H : (some ((t540) % 4294967296)) = some r := H
  have A3 := Aside0.mk A30
  clear A30
  obtain rfl := Option.some.inj H
  go_enter Try.func87, Try.ntmps87
  go_wp2_with (first | ((with_reducible refine gate_callee (f := 56) rfl ?_); refine goesL_ (some 9) rfl rfl Try.func56 (by kernel_rfl) rfl #[.int .i64 (wrap64 (a0)), .int .i64 (wrap64 (a1))] rfl (by (try simp only [List.map_toArray, List.map_cons, List.map_nil]); first | done | rfl | (simp only [List.length_drop, List.length_take]; rfl)) ?_; (with_reducible refine (latheref02_Sub.calls k (wrap64 (a0)) (wrap64 (a1)) t540 _ A3.out).mono ?_); rintro e w4 ⟨rfl, hb⟩; refine ⟨_, rfl, ?_⟩; have n0_ := Aside0.mk (below_step (by repeat (first | (with_reducible first | exact HB.out | apply below_alloc | apply pw_below_drewN | apply below_drew1) | exact HB.out)) hb); clear HB; have HB := n0_; clear n0_; (try clear hb); (try clear hb2); (try clear hk); (try clear hi)))
  go_ret
  exact ⟨by first | rfl | (simp [errW_none, errW_some] <;> rfl) | (simp [*, errW_none, errW_some] <;> rfl), by repeat (first | (with_reducible first | exact HB.out | apply below_alloc | apply pw_below_drewN | apply below_drew1) | exact HB.out)⟩

/-! ### latheref04_mul: function 88 -/
def latheref04_mul.f (k : Nat) (a0 : Int) (a1 : Int) : Option (Int) := (latheref02_Mul.f k (wrap64 (a0)) (wrap64 (a1))).bind fun t541 => (some ((t541) % 4294967296))
theorem latheref04_mul.mono : ∀ a0 a1 k, LeO (latheref04_mul.f k a0 a1) (latheref04_mul.f (k + 1) a0 a1) := by
  intro a0 a1 k
  unfold latheref04_mul.f
  repeat' first
      | (with_reducible exact latheref02_Mul.mono _ _ _)
      | (with_reducible exact LeO.refl _)
      | (with_reducible exact LeO.none _)
      | (with_reducible refine LeO.ite ?_ ?_)
      | (with_reducible refine LeO.bind ?_ (fun _ => ?_))
      | exact latheref02_Mul.mono _ _ _
      | exact LeO.none _
      | refine LeO.ite ?_ ?_
      | refine LeO.bind ?_ (fun _ => ?_)
set_option maxHeartbeats 8000000 in
set_option maxRecDepth 100000 in
theorem latheref04_mul.calls (k : Nat) (a0 : Int) (a1 : Int) (r : Int) (w : World) (h : latheref04_mul.f k a0 a1 = some r) :
    Calls Try.prog 88 #[.int .u32 a0, .int .u32 a1] w fun e w' => e = .returned (.int .u32 r) ∧ Below w.heap.size w w' := by
  have HB := Aside0.mk (Below.refl w.heap.size w)
  have H : ((latheref02_Mul.f k (wrap64 (a0)) (wrap64 (a1))).bind fun t541 => (some ((t541) % 4294967296))) = some r := h
  clear h
  replace H := Option.bind_eq_some_iff.mp H
  obtain ⟨t541, A30, H⟩ := H
  replace H : (some ((t541) % 4294967296)) = some r := H
  have A3 := Aside0.mk A30
  clear A30
  obtain rfl := Option.some.inj H
  go_enter Try.func88, Try.ntmps88
  go_wp2_with (first | ((with_reducible refine gate_callee (f := 49) rfl ?_); refine goesL_ (some 9) rfl rfl Try.func49 (by kernel_rfl) rfl #[.int .i64 (wrap64 (a0)), .int .i64 (wrap64 (a1))] rfl (by (try simp only [List.map_toArray, List.map_cons, List.map_nil]); first | done | rfl | (simp only [List.length_drop, List.length_take]; rfl)) ?_; (with_reducible refine (latheref02_Mul.calls k (wrap64 (a0)) (wrap64 (a1)) t541 _ A3.out).mono ?_); rintro e w4 ⟨rfl, hb⟩; refine ⟨_, rfl, ?_⟩; have n0_ := Aside0.mk (below_step (by repeat (first | (with_reducible first | exact HB.out | apply below_alloc | apply pw_below_drewN | apply below_drew1) | exact HB.out)) hb); clear HB; have HB := n0_; clear n0_; (try clear hb); (try clear hb2); (try clear hk); (try clear hi)))
  go_ret
  exact ⟨by first | rfl | (simp [errW_none, errW_some] <;> rfl) | (simp [*, errW_none, errW_some] <;> rfl), by repeat (first | (with_reducible first | exact HB.out | apply below_alloc | apply pw_below_drewN | apply below_drew1) | exact HB.out)⟩

/-! ### latheref04_add: function 89 -/
def latheref04_add.f (k : Nat) (a0 : Int) (a1 : Int) : Option (Int) := (latheref02_Add.f k (wrap64 (a0)) (wrap64 (a1))).bind fun t542 => (some ((t542) % 4294967296))
theorem latheref04_add.mono : ∀ a0 a1 k, LeO (latheref04_add.f k a0 a1) (latheref04_add.f (k + 1) a0 a1) := by
  intro a0 a1 k
  unfold latheref04_add.f
  repeat' first
      | (with_reducible exact latheref02_Add.mono _ _ _)
      | (with_reducible exact LeO.refl _)
      | (with_reducible exact LeO.none _)
      | (with_reducible refine LeO.ite ?_ ?_)
      | (with_reducible refine LeO.bind ?_ (fun _ => ?_))
      | exact latheref02_Add.mono _ _ _
      | exact LeO.none _
      | refine LeO.ite ?_ ?_
      | refine LeO.bind ?_ (fun _ => ?_)
set_option maxHeartbeats 8000000 in
set_option maxRecDepth 100000 in
theorem latheref04_add.calls (k : Nat) (a0 : Int) (a1 : Int) (r : Int) (w : World) (h : latheref04_add.f k a0 a1 = some r) :
    Calls Try.prog 89 #[.int .u32 a0, .int .u32 a1] w fun e w' => e = .returned (.int .u32 r) ∧ Below w.heap.size w w' := by
  have HB := Aside0.mk (Below.refl w.heap.size w)
  have H : ((latheref02_Add.f k (wrap64 (a0)) (wrap64 (a1))).bind fun t542 => (some ((t542) % 4294967296))) = some r := h
  clear h
  replace H := Option.bind_eq_some_iff.mp H
  obtain ⟨t542, A30, H⟩ := H
  replace H : (some ((t542) % 4294967296)) = some r := H
  have A3 := Aside0.mk A30
  clear A30
  obtain rfl := Option.some.inj H
  go_enter Try.func89, Try.ntmps89
  go_wp2_with (first | ((with_reducible refine gate_callee (f := 54) rfl ?_); refine goesL_ (some 9) rfl rfl Try.func54 (by kernel_rfl) rfl #[.int .i64 (wrap64 (a0)), .int .i64 (wrap64 (a1))] rfl (by (try simp only [List.map_toArray, List.map_cons, List.map_nil]); first | done | rfl | (simp only [List.length_drop, List.length_take]; rfl)) ?_; (with_reducible refine (latheref02_Add.calls k (wrap64 (a0)) (wrap64 (a1)) t542 _ A3.out).mono ?_); rintro e w4 ⟨rfl, hb⟩; refine ⟨_, rfl, ?_⟩; have n0_ := Aside0.mk (below_step (by repeat (first | (with_reducible first | exact HB.out | apply below_alloc | apply pw_below_drewN | apply below_drew1) | exact HB.out)) hb); clear HB; have HB := n0_; clear n0_; (try clear hb); (try clear hb2); (try clear hk); (try clear hi)))
  go_ret
  exact ⟨by first | rfl | (simp [errW_none, errW_some] <;> rfl) | (simp [*, errW_none, errW_some] <;> rfl), by repeat (first | (with_reducible first | exact HB.out | apply below_alloc | apply pw_below_drewN | apply below_drew1) | exact HB.out)⟩

end Go.Proofs.Ytcegmbplgghjnaa.PF
