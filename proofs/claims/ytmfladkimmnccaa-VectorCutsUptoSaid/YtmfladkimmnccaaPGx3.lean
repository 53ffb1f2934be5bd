/- The functions of the program that a statement reaches, as plain functions, and that the machine's calls do what these say. No condition. (Printed by a program.) -/
import Derived.Test.YtmfladkimmnccaaPGx0
import Derived.Test.YtmfladkimmnccaaPGx2
namespace Go.Proofs.Ytmfladkimmnccaa.PG
open Go.RowKit Go.Proofs.YtmfladkimmnccaaW.PrintWords Go.Proofs.YtmfladkimmnccaaW.PrintLast Go.Proofs.YtmfladkimmnccaaW.PrintMore
attribute [local go_sem] max2_int min2_int max_two min_two max_three min_three max_four min_four   -- for this text's walks alone
set_option linter.unusedVariables false
set_option linter.unusedSimpArgs false

/-! ### latheref02_Round: function 123 -/
mutual
def latheref02_Round.j0 : Nat → Bool → Int → Int → Option (Int)
  | 0, _, _, _ => none
  | k + 1, x0, x7, x9 => if x9 = 16777216 then (latheref02_Round.j1 k x0 (wrap64 (x7 + 1)) 8388608) else (latheref02_Round.j1 k x0 x7 x9)
def latheref02_Round.j1 : Nat → Bool → Int → Int → Option (Int)
  | 0, _, _, _ => none
  | k + 1, x0, x7, x9 => if x9 < 8388608 then ((latheref02_sign.f x0).bind fun t124 => (some (wrap64 (IntKind.u64.wrap (t124 + x9))))) else (if (wrap64 (x7 + 150)) ≥ 255 then ((latheref02_infinite.f x0).bind fun t125 => (some t125)) else ((latheref02_sign.f x0).bind fun t126 => (some (wrap64 (IntKind.u64.wrap ((IntKind.u64.wrap ((IntKind.u64.wrap (t126 + (IntKind.u64.wrap ((IntKind.u64.wrap (wrap64 (x7 + 150))) * 8388608)))) + x9)) - 8388608))))))
end
def latheref02_Round.f (k : Nat) (a0 : Bool) (a1 : Int) (a2 : Int) : Option (Int) := if a1 = 0 then ((latheref02_zero.f a0).bind fun t121 => (some t121)) else ((latheref02_length.f k a1).bind fun t122 => (if (wrap64 ((mx (wrap64 ((wrap64 (a2 + t122)) - 24)) (-149)) - a2)) ≤ 0 then (if 0 ≤ (IntKind.u64.wrap (wrap64 (-(wrap64 ((mx (wrap64 ((wrap64 (a2 + t122)) - 24)) (-149)) - a2))))) then (latheref02_Round.j0 k a0 (mx (wrap64 ((wrap64 (a2 + t122)) - 24)) (-149)) (shl .u64 a1 (IntKind.u64.wrap (wrap64 (-(wrap64 ((mx (wrap64 ((wrap64 (a2 + t122)) - 24)) (-149)) - a2))))))) else (none)) else ((latheref02_halved.f a1 (wrap64 ((mx (wrap64 ((wrap64 (a2 + t122)) - 24)) (-149)) - a2))).bind fun t123 => (latheref02_Round.j0 k a0 (mx (wrap64 ((wrap64 (a2 + t122)) - 24)) (-149)) t123))))
theorem latheref02_Round.mono_l : ∀ k, (∀ y0 y1 y2, LeO (latheref02_Round.j0 k y0 y1 y2) (latheref02_Round.j0 (k + 1) y0 y1 y2)) ∧ (∀ y0 y1 y2, LeO (latheref02_Round.j1 k y0 y1 y2) (latheref02_Round.j1 (k + 1) y0 y1 y2))
  | 0 => ⟨fun _ _ _ r h => by simp [latheref02_Round.j0] at h, fun _ _ _ r h => by simp [latheref02_Round.j1] at h⟩
  | k + 1 => by
    obtain ⟨ih0, ih1⟩ := latheref02_Round.mono_l k
    refine ⟨?_, ?_⟩
    · intro y0 y1 y2
      unfold latheref02_Round.j0
      repeat' first
      | (with_reducible exact ih0 _ _ _)
      | (with_reducible exact ih1 _ _ _)
      | (with_reducible exact latheref02_length.mono _ _)
      | (with_reducible exact LeO.refl _)
      | (with_reducible exact LeO.none _)
      | (with_reducible refine LeO.ite ?_ ?_)
      | (with_reducible refine LeO.bind ?_ (fun _ => ?_))
      | exact ih0 _ _ _
      | exact ih1 _ _ _
      | exact latheref02_length.mono _ _
      | exact LeO.none _
      | refine LeO.ite ?_ ?_
      | refine LeO.bind ?_ (fun _ => ?_)
    · intro y0 y1 y2
      unfold latheref02_Round.j1
      repeat' first
      | (with_reducible exact ih0 _ _ _)
      | (with_reducible exact ih1 _ _ _)
      | (with_reducible exact latheref02_length.mono _ _)
      | (with_reducible exact LeO.refl _)
      | (with_reducible exact LeO.none _)
      | (with_reducible refine LeO.ite ?_ ?_)
      | (with_reducible refine LeO.bind ?_ (fun _ => ?_))
      | exact ih0 _ _ _
      | exact ih1 _ _ _
      | exact latheref02_length.mono _ _
      | exact LeO.none _
      | refine LeO.ite ?_ ?_
      | refine LeO.bind ?_ (fun _ => ?_)
theorem latheref02_Round.mono : ∀ a0 a1 a2 k, LeO (latheref02_Round.f k a0 a1 a2) (latheref02_Round.f (k + 1) a0 a1 a2) := by
  intro a0 a1 a2 k
  obtain ⟨ih0, ih1⟩ := latheref02_Round.mono_l k
  unfold latheref02_Round.f
  repeat' first
      | (with_reducible exact ih0 _ _ _)
      | (with_reducible exact ih1 _ _ _)
      | (with_reducible exact latheref02_length.mono _ _)
      | (with_reducible exact LeO.refl _)
      | (with_reducible exact LeO.none _)
      | (with_reducible refine LeO.ite ?_ ?_)
      | (with_reducible refine LeO.bind ?_ (fun _ => ?_))
      | exact ih0 _ _ _
      | exact ih1 _ _ _
      | exact latheref02_length.mono _ _
      | exact LeO.none _
      | refine LeO.ite ?_ ?_
      | refine LeO.bind ?_ (fun _ => ?_)
set_option maxHeartbeats 8000000 in
set_option maxRecDepth 100000 in
theorem latheref02_Round.calls (k : Nat) (a0 : Bool) (a1 : Int) (a2 : Int) (r : Int) (w : World) (h : latheref02_Round.f k a0 a1 a2 = some r) :
    Calls Try.prog 123 #[.bool a0, .int .u64 a1, .int .i64 a2] w fun e w' => e = .returned (.int .i64 r) ∧ Below w.heap.size w w' := by
  have HB := Aside0.mk (Below.refl w.heap.size w)
  have H : (if a1 = 0 then ((latheref02_zero.f a0).bind fun t121 => (some t121)) else ((latheref02_length.f k a1).bind fun t122 => (if (wrap64 ((mx (wrap64 ((wrap64 (a2 + t122)) - 24)) (-149)) - a2)) ≤ 0 then (if 0 ≤ (IntKind.u64.wrap (wrap64 (-(wrap64 ((mx (wrap64 ((wrap64 (a2 + t122)) - 24)) (-149)) - a2))))) then (latheref02_Round.j0 k a0 (mx (wrap64 ((wrap64 (a2 + t122)) - 24)) (-149)) (shl .u64 a1 (IntKind.u64.wrap (wrap64 (-(wrap64 ((mx (wrap64 ((wrap64 (a2 + t122)) - 24)) (-149)) - a2))))))) else (none)) else ((latheref02_halved.f a1 (wrap64 ((mx (wrap64 ((wrap64 (a2 + t122)) - 24)) (-149)) - a2))).bind fun t123 => (latheref02_Round.j0 k a0 (mx (wrap64 ((wrap64 (a2 + t122)) - 24)) (-149)) t123))))) = some r := h
  clear h
  by_cases c4 : a1 = 0
  · rw [if_pos c4] at H
    have c4b0 : (a1 == 0) = true := beq_iff_eq.mpr c4
    have c4b1 : (a1 != 0) = false := bne_eq_false_iff_eq.mpr c4
    clear c4
    replace H := Option.bind_eq_some_iff.mp H
    obtain ⟨t121, A50, H⟩ := H
    replace H : (some t121) = some r := H
    have A5 := Aside0.mk A50
    clear A50
    obtain rfl := Option.some.inj H
    go_enter Try.func123, Try.ntmps123
    go_wp2_with (first | ((with_reducible refine gate_callee (f := 122) rfl ?_); refine goesL_ (some 14) rfl rfl Try.func122 (by kernel_rfl) rfl #[.bool a0] rfl (by (try simp only [List.map_toArray, List.map_cons, List.map_nil]); first | done | rfl | (simp only [List.length_drop, List.length_take]; rfl)) ?_; (with_reducible refine (latheref02_zero.calls a0 t121 _ A5.out).mono ?_); clear A5; rintro e w' ⟨rfl, ⟨nd, rfl⟩⟩; refine ⟨_, rfl, ?_⟩))
    go_ret
    exact ⟨by first | rfl | (simp [errW_none, errW_some] <;> rfl) | (simp [*, errW_none, errW_some] <;> rfl), by repeat (first | (with_reducible first | exact HB.out | apply below_alloc | apply pw_below_drewN | apply below_drew1) | exact HB.out)⟩
  · rw [if_neg c4] at H
    have c4b0 : (a1 == 0) = false := beq_eq_false_iff_ne.mpr c4
    have c4b1 : (a1 != 0) = true := bne_iff_ne.mpr c4
    replace H := Option.bind_eq_some_iff.mp H
    obtain ⟨t122, A60, H⟩ := H
    replace H : (if (wrap64 ((mx (wrap64 ((wrap64 (a2 + t122)) - 24)) (-149)) - a2)) ≤ 0 then (if 0 ≤ (IntKind.u64.wrap (wrap64 (-(wrap64 ((mx (wrap64 ((wrap64 (a2 + t122)) - 24)) (-149)) - a2))))) then (latheref02_Round.j0 k a0 (mx (wrap64 ((wrap64 (a2 + t122)) - 24)) (-149)) (shl .u64 a1 (IntKind.u64.wrap (wrap64 (-(wrap64 ((mx (wrap64 ((wrap64 (a2 + t122)) - 24)) (-149)) - a2))))))) else (none)) else ((latheref02_halved.f a1 (wrap64 ((mx (wrap64 ((wrap64 (a2 + t122)) - 24)) (-149)) - a2))).bind fun t123 => (latheref02_Round.j0 k a0 (mx (wrap64 ((wrap64 (a2 + t122)) - 24)) (-149)) t123))) = some r := H
    have A6 := Aside0.mk A60
    clear A60
    obtain ⟨ji7, hji7⟩ : ∃ j_ : Int, (mx (wrap64 ((wrap64 (a2 + t122)) - 24)) (-149)) = j_ := ⟨_, rfl⟩
    replace H : (if (wrap64 ((ji7) - a2)) ≤ 0 then (if 0 ≤ (IntKind.u64.wrap (wrap64 (-(wrap64 ((ji7) - a2))))) then (latheref02_Round.j0 k a0 ji7 (shl .u64 a1 (IntKind.u64.wrap (wrap64 (-(wrap64 ((ji7) - a2))))))) else (none)) else ((latheref02_halved.f a1 (wrap64 ((ji7) - a2))).bind fun t123 => (latheref02_Round.j0 k a0 ji7 t123))) = some r := by first | (rw [hji7] at H; exact H) | (simp only [hji7] at H ⊢; exact H)
    (try rw [hji7] at A6)
    have hji7_ : (if (wrap64 ((wrap64 (a2 + t122)) - 24)) < (-149) then (-149) else (wrap64 ((wrap64 (a2 + t122)) - 24))) = ji7 := hji7
    have HC8 := Aside0.mk H
    clear H
    go_enter Try.func123, Try.ntmps123
    go_upto_if 26 with (first | ((with_reducible refine gate_callee (f := 139) rfl ?_); refine goesL_ (some 17) rfl rfl Try.func139 (by kernel_rfl) rfl #[.int .u64 a1] rfl (by (try simp only [List.map_toArray, List.map_cons, List.map_nil]); first | done | rfl | (simp only [List.length_drop, List.length_take]; rfl)) ?_; (with_reducible refine (latheref02_length.calls k a1 t122 _ A6.out).mono ?_); clear A6; rintro e w' ⟨rfl, ⟨nd, rfl⟩⟩; refine ⟨_, rfl, ?_⟩))
    (try simp only [Act.put, List.setIfInBounds_toArray, List.set_cons_zero, List.set_cons_succ])
    go_cut [9] (fun v9 wc => ∃ (kq : Nat) (x9_7 : Int), v9 = .int .u64 x9_7 ∧ Aside0 (latheref02_Round.j0 kq a0 ji7 x9_7 = some r) ∧ Aside0 (kq ≤ k) ∧ Aside0 (Below w.heap.size w wc))
    case first =>
      have H := HC8.out
      clear HC8
      by_cases c9 : (wrap64 ((ji7) - a2)) ≤ 0
      · rw [if_pos c9] at H
        have c9b0 : decide ((wrap64 ((ji7) - a2)) ≤ 0) = true := decide_eq_true c9
        clear c9
        (first | rw [c9b0] | (simp only [i64_w, i32_w]; rw [c9b0]) | skip)
        obtain ⟨ji10, hji10⟩ : ∃ j_ : Int, (IntKind.u64.wrap (wrap64 (-(wrap64 ((ji7) - a2))))) = j_ := ⟨_, rfl⟩
        replace H : (if 0 ≤ (ji10) then (latheref02_Round.j0 k a0 ji7 (shl .u64 a1 (ji10))) else (none)) = some r := by first | (rw [hji10] at H; exact H) | (simp only [hji10] at H ⊢; exact H)
        by_cases c11 : 0 ≤ (ji10)
        · rw [if_pos c11] at H
          have c11b0 := eq_true c11
          have c11b1 : decide (0 ≤ (ji10)) = true := decide_eq_true c11
          clear c11
          obtain ⟨ji12, hji12⟩ : ∃ j_ : Int, (shl .u64 a1 (ji10)) = j_ := ⟨_, rfl⟩
          replace H : (latheref02_Round.j0 k a0 ji7 ji12) = some r := by first | (rw [hji12] at H; exact H) | (simp only [hji12] at H ⊢; exact H)
          have hji12_ : (IntKind.u64.wrap (a1 * 2 ^ min (ji10).toNat 64)) = ji12 := hji12
          have hji12z : (ji10) ≤ 64 → (IntKind.u64.wrap (a1 * 2 ^ (ji10).toNat)) = ji12 := shl_small hji12
          have H' := Aside0.mk H
          clear H
          go_wp2
          go_meet
          case rel => exact ⟨_, (ji12), (by first | rfl | (simp; done) | (simp only [← hji12] <;> (first | rfl | simp)) | (simp [*]; done)), (by first | exact H' | (rw [hji12]; exact H') | (rw [hji10]; exact H') | (rw [hji7]; exact H')), ⟨by first | omega | exact Nat.le_refl _⟩, ⟨by repeat (first | (with_reducible first | exact HB.out | apply below_alloc | apply pw_below_drewN | apply below_drew1) | exact HB.out)⟩⟩
        · rw [if_neg c11] at H
          exact absurd H (by simp)
      · rw [if_neg c9] at H
        have c9b0 : decide ((wrap64 ((ji7) - a2)) ≤ 0) = false := decide_eq_false c9
        clear c9
        (first | rw [c9b0] | (simp only [i64_w, i32_w]; rw [c9b0]) | skip)
        replace H := Option.bind_eq_some_iff.mp H
        obtain ⟨t123, A130, H⟩ := H
        replace H : (latheref02_Round.j0 k a0 ji7 t123) = some r := H
        have A13 := Aside0.mk A130
        clear A130
        have H' := Aside0.mk H
        clear H
        go_wp2_with (first | ((with_reducible refine gate_callee (f := 140) rfl ?_); refine goesL_ (some 34) rfl rfl Try.func140 (by kernel_rfl) rfl #[.int .u64 a1, .int .i64 (wrap64 ((ji7) - a2))] rfl (by (try simp only [List.map_toArray, List.map_cons, List.map_nil]); first | done | (simp only [hji7]; rfl) | rfl | (simp only [List.length_drop, List.length_take]; rfl)) ?_; (with_reducible refine (latheref02_halved.calls a1 (wrap64 ((ji7) - a2)) t123 _ A13.out).mono ?_); clear A13; rintro e w' ⟨rfl, ⟨nd, rfl⟩⟩; refine ⟨_, rfl, ?_⟩))
        go_meet
        case rel => exact ⟨_, (t123), (by first | rfl | (simp; done) | (simp [*]; done)), (by first | exact H' | (rw [hji12]; exact H') | (rw [hji10]; exact H') | (rw [hji7]; exact H')), ⟨by first | omega | exact Nat.le_refl _⟩, ⟨by repeat (first | (with_reducible first | exact HB.out | apply below_alloc | apply pw_below_drewN | apply below_drew1) | exact HB.out)⟩⟩
    case rest =>
      clear HC8
      try clear c1
      try clear p2
      try clear c4
      try clear c4b0
      try clear c4b1
      try clear p6
      try clear c9
      try clear c9b0
      try clear c11
      try clear c11b0
      try clear c11b1
      try clear c12
      try clear c13
      obtain ⟨kq, x9_7, rfl, HA, HJ7, HB⟩ := hcut
      cases kq with
      | zero => exact absurd HA.out (by simp [latheref02_Round.j0])
      | succ kj7 =>
        have H := HA.out
        clear HA
        simp only [latheref02_Round.j0] at H
        have HC14 := Aside0.mk H
        clear H
        go_upto_if 36 with (fail)
        go_cut [7, 9] (fun v7 v9 wc => ∃ (kq : Nat) (x7_13 : Int) (x9_13 : Int), v7 = .int .i64 x7_13 ∧ v9 = .int .u64 x9_13 ∧ Aside0 (latheref02_Round.j1 kq a0 x7_13 x9_13 = some r) ∧ Aside0 (kq ≤ kj7) ∧ Aside0 (Below w.heap.size w wc))
        case first =>
          have H := HC14.out
          clear HC14
          by_cases c15 : x9_7 = 16777216
          · rw [if_pos c15] at H
            have c15b0 : (x9_7 == 16777216) = true := beq_iff_eq.mpr c15
            have c15b1 : (x9_7 != 16777216) = false := bne_eq_false_iff_eq.mpr c15
            clear c15
            (first | rw [c15b0] | (simp only [i64_w, i32_w]; rw [c15b0]) | skip)
            have H' := Aside0.mk H
            clear H
            go_wp2
            go_meet
            case rel => exact ⟨_, (wrap64 (ji7 + 1)), (8388608), (by first | rfl | (simp; done) | (simp only [← hji7] <;> (first | rfl | simp)) | (simp [*]; done)), (by first | rfl | (simp; done) | (simp [*]; done)), H', ⟨by have := HJ7.out; first | omega | exact Nat.le_refl _⟩, ⟨by repeat (first | (with_reducible first | exact HB.out | apply below_alloc | apply pw_below_drewN | apply below_drew1) | exact HB.out)⟩⟩
          · rw [if_neg c15] at H
            have c15b0 : (x9_7 == 16777216) = false := beq_eq_false_iff_ne.mpr c15
            have c15b1 : (x9_7 != 16777216) = true := bne_iff_ne.mpr c15
            (first | rw [c15b0] | (simp only [i64_w, i32_w]; rw [c15b0]) | skip)
            have H' := Aside0.mk H
            clear H
            go_wp2
            go_meet
            case rel => exact ⟨_, (ji7), (x9_7), (by first | rfl | (simp; done) | (simp only [← hji7] <;> (first | rfl | simp)) | (simp [*]; done)), (by first | rfl | (simp; done) | (simp [*]; done)), H', ⟨by have := HJ7.out; first | omega | exact Nat.le_refl _⟩, ⟨by repeat (first | (with_reducible first | exact HB.out | apply below_alloc | apply pw_below_drewN | apply below_drew1) | exact HB.out)⟩⟩
        case rest =>
          clear HC14
          try clear c1
          try clear p2
          try clear c4
          try clear c4b0
          try clear c4b1
          try clear p6
          try clear c9
          try clear c9b0
          try clear c11
          try clear c11b0
          try clear c11b1
          try clear c12
          try clear c13
          try clear c14
          try clear c15
          try clear c15b0
          try clear c15b1
          try clear p2
          try clear p6
          obtain ⟨kq, x7_13, x9_13, rfl, rfl, HA, HJ13, HB⟩ := hcut
          cases kq with
          | zero => exact absurd HA.out (by simp [latheref02_Round.j1])
          | succ kj13 =>
            have H := HA.out
            clear HA
            simp only [latheref02_Round.j1] at H
            by_cases c16 : x9_13 < 8388608
            · rw [if_pos c16] at H
              have c16b0 : decide (x9_13 < 8388608) = true := decide_eq_true c16
              clear c16
              replace H := Option.bind_eq_some_iff.mp H
              obtain ⟨t124, A170, H⟩ := H
              replace H : (some (wrap64 (IntKind.u64.wrap (t124 + x9_13)))) = some r := H
              have A17 := Aside0.mk A170
              clear A170
              obtain rfl := Option.some.inj H
              go_wp2_with (first | ((with_reducible refine gate_callee (f := 138) rfl ?_); refine goesL_ (some 42) rfl rfl Try.func138 (by kernel_rfl) rfl #[.bool a0] rfl (by (try simp only [List.map_toArray, List.map_cons, List.map_nil]); first | done | rfl | (simp only [List.length_drop, List.length_take]; rfl)) ?_; (with_reducible refine (latheref02_sign.calls a0 t124 _ A17.out).mono ?_); clear A17; rintro e w' ⟨rfl, ⟨nd, rfl⟩⟩; refine ⟨_, rfl, ?_⟩))
              go_ret
              exact ⟨by first | rfl | (simp [errW_none, errW_some] <;> rfl) | (simp only [← hji7]; first | rfl | (simp [errW_none, errW_some] <;> rfl)) | (simp [*, errW_none, errW_some] <;> rfl), by repeat (first | (with_reducible first | exact HB.out | apply below_alloc | apply pw_below_drewN | apply below_drew1) | exact HB.out)⟩
            · rw [if_neg c16] at H
              have c16b0 : decide (x9_13 < 8388608) = false := decide_eq_false c16
              clear c16
              by_cases c18 : (wrap64 (x7_13 + 150)) ≥ 255
              · rw [if_pos c18] at H
                have c18b0 : decide (255 ≤ (wrap64 (x7_13 + 150))) = true := decide_eq_true c18
                clear c18
                replace H := Option.bind_eq_some_iff.mp H
                obtain ⟨t125, A190, H⟩ := H
                replace H : (some t125) = some r := H
                have A19 := Aside0.mk A190
                clear A190
                obtain rfl := Option.some.inj H
                go_wp2_with (first | ((with_reducible refine gate_callee (f := 121) rfl ?_); refine goesL_ (some 51) rfl rfl Try.func121 (by kernel_rfl) rfl #[.bool a0] rfl (by (try simp only [List.map_toArray, List.map_cons, List.map_nil]); first | done | rfl | (simp only [List.length_drop, List.length_take]; rfl)) ?_; (with_reducible refine (latheref02_infinite.calls a0 t125 _ A19.out).mono ?_); clear A19; rintro e w' ⟨rfl, ⟨nd, rfl⟩⟩; refine ⟨_, rfl, ?_⟩))
                go_ret
                exact ⟨by first | rfl | (simp [errW_none, errW_some] <;> rfl) | (simp only [← hji7]; first | rfl | (simp [errW_none, errW_some] <;> rfl)) | (simp [*, errW_none, errW_some] <;> rfl), by repeat (first | (with_reducible first | exact HB.out | apply below_alloc | apply pw_below_drewN | apply below_drew1) | exact HB.out)⟩
              · rw [if_neg c18] at H
                have c18b0 : decide (255 ≤ (wrap64 (x7_13 + 150))) = false := decide_eq_false c18
                clear c18
                replace H := Option.bind_eq_some_iff.mp H
                obtain ⟨t126, A200, H⟩ := H
                replace H : (some (wrap64 (IntKind.u64.wrap ((IntKind.u64.wrap ((IntKind.u64.wrap (t126 + (IntKind.u64.wrap ((IntKind.u64.wrap (wrap64 (x7_13 + 150))) * 8388608)))) + x9_13)) - 8388608)))) = some r := H
                have A20 := Aside0.mk A200
                clear A200
                obtain rfl := Option.some.inj H
                go_wp2_with (first | ((with_reducible refine gate_callee (f := 138) rfl ?_); refine goesL_ (some 53) rfl rfl Try.func138 (by kernel_rfl) rfl #[.bool a0] rfl (by (try simp only [List.map_toArray, List.map_cons, List.map_nil]); first | done | rfl | (simp only [List.length_drop, List.length_take]; rfl)) ?_; (with_reducible refine (latheref02_sign.calls a0 t126 _ A20.out).mono ?_); clear A20; rintro e w' ⟨rfl, ⟨nd, rfl⟩⟩; refine ⟨_, rfl, ?_⟩))
                go_ret
                exact ⟨by first | rfl | (simp [errW_none, errW_some] <;> rfl) | (simp only [← hji7]; first | rfl | (simp [errW_none, errW_some] <;> rfl)) | (simp [*, errW_none, errW_some] <;> rfl), by repeat (first | (with_reducible first | exact HB.out | apply below_alloc | apply pw_below_drewN | apply below_drew1) | exact HB.out)⟩

end Go.Proofs.Ytmfladkimmnccaa.PG
