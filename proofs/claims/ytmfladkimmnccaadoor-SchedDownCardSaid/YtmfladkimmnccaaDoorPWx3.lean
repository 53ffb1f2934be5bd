/- The functions of the program that a statement reaches, as plain functions, and that the machine's calls do what these say. No condition. (Printed by a program.) -/
import Derived.Test.YtmfladkimmnccaaDoorPWx0
import Derived.Test.YtmfladkimmnccaaDoorPWx2
namespace Go.Proofs.YtmfladkimmnccaaDoor.PW
open Go.RowKit Go.Proofs.YtmfladkimmnccaaDoorW.PrintWords Go.Proofs.YtmfladkimmnccaaDoorW.PrintLast Go.Proofs.YtmfladkimmnccaaDoorW.PrintMore
attribute [local go_sem] max2_int min2_int max_two min_two max_three min_three max_four min_four   -- for this text's walks alone
set_option linter.unusedVariables false
set_option linter.unusedSimpArgs false

/-! ### latheref02_length: function 72 -/
def latheref02_length.l0 : Nat → Int → Int → Option (Int)
  | 0, _, _ => none
  | k + 1, x0, x3 => if x0 > 0 then (latheref02_length.l0 k (x0 / 2) (wrap64 (x3 + 1))) else (some x3)
def latheref02_length.f (k : Nat) (a0 : Int) : Option (Int) := latheref02_length.l0 k a0 0
theorem latheref02_length.mono_l : ∀ k, (∀ y0 y1, LeO (latheref02_length.l0 k y0 y1) (latheref02_length.l0 (k + 1) y0 y1))
  | 0 => fun _ _ r h => by simp [latheref02_length.l0] at h
  | k + 1 => by
    have ih0 := latheref02_length.mono_l k
    · intro y0 y1
      unfold latheref02_length.l0
      repeat' first
      | (with_reducible exact ih0 _ _)
      | (with_reducible exact LeO.refl _)
      | (with_reducible exact LeO.none _)
      | (with_reducible refine LeO.ite ?_ ?_)
      | (with_reducible refine LeO.bind ?_ (fun _ => ?_))
      | exact ih0 _ _
      | exact LeO.none _
      | refine LeO.ite ?_ ?_
      | refine LeO.bind ?_ (fun _ => ?_)
theorem latheref02_length.mono : ∀ a0 k, LeO (latheref02_length.f k a0) (latheref02_length.f (k + 1) a0) := by
  intro a0 k
  have ih0 := latheref02_length.mono_l k
  unfold latheref02_length.f
  repeat' first
      | (with_reducible exact ih0 _ _)
      | (with_reducible exact LeO.refl _)
      | (with_reducible exact LeO.none _)
      | (with_reducible refine LeO.ite ?_ ?_)
      | (with_reducible refine LeO.bind ?_ (fun _ => ?_))
      | exact ih0 _ _
      | exact LeO.none _
      | refine LeO.ite ?_ ?_
      | refine LeO.bind ?_ (fun _ => ?_)
set_option maxHeartbeats 8000000 in
set_option maxRecDepth 100000 in
theorem latheref02_length.calls (k : Nat) (a0 : Int) (r : Int) (w : World) (h : latheref02_length.f k a0 = some r) :
    Calls Tryd.prog 72 #[.int .u64 a0] w fun e w' => e = .returned (.int .i64 r) ∧ Drawn0 w w' := by
  have H : (latheref02_length.l0 k a0 0) = some r := h
  clear h
  have H' := Aside0.mk H
  clear H
  go_enter Tryd.func72, Tryd.ntmps72
  go_wp2
  go_loopg [0, 3] k (fun kq v0 v3 w' => ∃ (x0_1 : Int) (x3_1 : Int), v0 = .int .u64 x0_1 ∧ v3 = .int .i64 x3_1 ∧ Aside0 (latheref02_length.l0 kq x0_1 x3_1 = some r) ∧ Aside0 (kq ≤ k) ∧ Drawn0 w w')
  case atStart => exact ⟨(a0), (0), (by first | rfl | (simp; done) | (simp [*]; done)), (by first | rfl | (simp; done) | (simp [*]; done)), H', ⟨Nat.le_refl _⟩, by repeat (first | exact Drawn0.refl _ | apply Drawn0.step)⟩
  case round =>
    clear H'
    obtain ⟨x0_1, x3_1, rfl, rfl, HA, HK1, ⟨m1, rfl⟩⟩ := hrel
    cases gk with
    | zero => exact absurd HA.out (by simp [latheref02_length.l0])
    | succ k1 =>
      have H := HA.out
      clear HA
      simp only [latheref02_length.l0] at H
      by_cases c2 : x0_1 > 0
      · rw [if_pos c2] at H
        have c2b0 : decide (0 < x0_1) = true := decide_eq_true c2
        clear c2
        have H' := Aside0.mk H
        clear H
        go_wp2
        go_roundg k1
        case measure => have := HK1.out; omega
        case rel => exact ⟨(x0_1 / 2), (wrap64 (x3_1 + 1)), (by first | rfl | (simp; done) | (simp [*]; done)), (by first | rfl | (simp; done) | (simp [*]; done)), H', ⟨by have := HK1.out; omega⟩, by repeat (first | exact Drawn0.refl _ | apply Drawn0.step)⟩
      · rw [if_neg c2] at H
        have c2b0 : decide (0 < x0_1) = false := decide_eq_false c2
        clear c2
        obtain rfl := Option.some.inj H
        go_wp2
        go_ret
        exact ⟨by first | rfl | (simp; done) | (simp [*]; done), by repeat (first | exact Drawn0.refl _ | apply Drawn0.step)⟩

/-! ### latheref02_halved: function 73 (given) -/
def latheref02_halved.f (a0 : Int) (a1 : Int) : Option (Int) := if 0 ≤ a0 ∧ a0 < 18446744073709551616 ∧ 1 ≤ a1 then some (Ref.hv a0.toNat a1.toNat : Nat) else none
theorem latheref02_halved.calls (a0 : Int) (a1 : Int) (r : Int) (w : World) (h : latheref02_halved.f a0 a1 = some r) :
    Calls Tryd.prog 73 #[.int .u64 a0, .int .i64 a1] w fun e w' => e = .returned (.int .u64 r) ∧ Drawn0 w w' := by
  unfold latheref02_halved.f at h
  split at h
  case isFalse => cases h
  rename_i g
  have h := Option.some.inj h
  subst h
  exact Ref.halved_given a0 a1 w g.1 g.2.1 g.2.2


/-! ### latheref02_Round: function 52 -/
mutual
def latheref02_Round.j0 : Nat → Bool → Int → Int → Option (Int)
  | 0, _, _, _ => none
  | k + 1, x0, x7, x9 => if x9 = 16777216 then (latheref02_Round.j1 k x0 (wrap64 (x7 + 1)) 8388608) else (latheref02_Round.j1 k x0 x7 x9)
def latheref02_Round.j1 : Nat → Bool → Int → Int → Option (Int)
  | 0, _, _, _ => none
  | k + 1, x0, x7, x9 => if x9 < 8388608 then ((latheref02_sign.f x0).bind fun t161 => (some (wrap64 (IntKind.u64.wrap (t161 + x9))))) else (if (wrap64 (x7 + 150)) ≥ 255 then ((latheref02_infinite.f x0).bind fun t162 => (some t162)) else ((latheref02_sign.f x0).bind fun t163 => (some (wrap64 (IntKind.u64.wrap ((IntKind.u64.wrap ((IntKind.u64.wrap (t163 + (IntKind.u64.wrap ((IntKind.u64.wrap (wrap64 (x7 + 150))) * 8388608)))) + x9)) - 8388608))))))
end
def latheref02_Round.f (k : Nat) (a0 : Bool) (a1 : Int) (a2 : Int) : Option (Int) := if a1 = 0 then ((latheref02_zero.f a0).bind fun t158 => (some t158)) else ((latheref02_length.f k a1).bind fun t159 => (if (wrap64 ((mx (wrap64 ((wrap64 (a2 + t159)) - 24)) (-149)) - a2)) ≤ 0 then (if 0 ≤ (IntKind.u64.wrap (wrap64 (-(wrap64 ((mx (wrap64 ((wrap64 (a2 + t159)) - 24)) (-149)) - a2))))) then (latheref02_Round.j0 k a0 (mx (wrap64 ((wrap64 (a2 + t159)) - 24)) (-149)) (shl .u64 a1 (IntKind.u64.wrap (wrap64 (-(wrap64 ((mx (wrap64 ((wrap64 (a2 + t159)) - 24)) (-149)) - a2))))))) else (none)) else ((latheref02_halved.f a1 (wrap64 ((mx (wrap64 ((wrap64 (a2 + t159)) - 24)) (-149)) - a2))).bind fun t160 => (latheref02_Round.j0 k a0 (mx (wrap64 ((wrap64 (a2 + t159)) - 24)) (-149)) t160))))
theorem latheref02_Round.mono_l : ∀ k, (∀ y0 y1 y2, LeO (latheref02_Round.j0 k y0 y1 y2) (latheref02_Round.j0 (k + 1) y0 y1 y2)) ∧ (∀ y0 y1 y2, LeO (latheref02_Round.j1 k y0 y1 y2) (latheref02_Round.j1 (k + 1) y0 y1 y2))
  | 0 => ⟨fun _ _ _ r h => by simp [latheref02_Round.j0] at h, fun _ _ _ r h => by simp [latheref02_Round.j1] at h⟩
  | k + 1 => by
    obtain ⟨ih0, ih1⟩ := latheref02_Round.mono_l k
    refine ⟨?_, ?_⟩
    · intro y0 y1 y2
      unfold latheref02_Round.j0
      repeat' first
      | (with_reducible exact ih0 _ _ _)
      | (with_reducible exact ih1 _ _ _)
      | (with_reducible exact latheref02_length.mono _ _)
      | (with_reducible exact LeO.refl _)
      | (with_reducible exact LeO.none _)
      | (with_reducible refine LeO.ite ?_ ?_)
      | (with_reducible refine LeO.bind ?_ (fun _ => ?_))
      | exact ih0 _ _ _
      | exact ih1 _ _ _
      | exact latheref02_length.mono _ _
      | exact LeO.none _
      | refine LeO.ite ?_ ?_
      | refine LeO.bind ?_ (fun _ => ?_)
    · intro y0 y1 y2
      unfold latheref02_Round.j1
      repeat' first
      | (with_reducible exact ih0 _ _ _)
      | (with_reducible exact ih1 _ _ _)
      | (with_reducible exact latheref02_length.mono _ _)
      | (with_reducible exact LeO.refl _)
      | (with_reducible exact LeO.none _)
      | (with_reducible refine LeO.ite ?_ ?_)
      | (with_reducible refine LeO.bind ?_ (fun _ => ?_))
      | exact ih0 _ _ _
      | exact ih1 _ _ _
      | exact latheref02_length.mono _ _
      | exact LeO.none _
      | refine LeO.ite ?_ ?_
      | refine LeO.bind ?_ (fun _ => ?_)
theorem latheref02_Round.mono : ∀ a0 a1 a2 k, LeO (latheref02_Round.f k a0 a1 a2) (latheref02_Round.f (k + 1) a0 a1 a2) := by
  intro a0 a1 a2 k
  obtain ⟨ih0, ih1⟩ := latheref02_Round.mono_l k
  unfold latheref02_Round.f
  repeat' first
      | (with_reducible exact ih0 _ _ _)
      | (with_reducible exact ih1 _ _ _)
      | (with_reducible exact latheref02_length.mono _ _)
      | (with_reducible exact LeO.refl _)
      | (with_reducible exact LeO.none _)
      | (with_reducible refine LeO.ite ?_ ?_)
      | (with_reducible refine LeO.bind ?_ (fun _ => ?_))
      | exact ih0 _ _ _
      | exact ih1 _ _ _
      | exact latheref02_length.mono _ _
      | exact LeO.none _
      | refine LeO.ite ?_ ?_
      | refine LeO.bind ?_ (fun _ => ?_)
set_option maxHeartbeats 8000000 in
set_option maxRecDepth 100000 in
theorem latheref02_Round.calls (k : Nat) (a0 : Bool) (a1 : Int) (a2 : Int) (r : Int) (w : World) (h : latheref02_Round.f k a0 a1 a2 = some r) :
    Calls Tryd.prog 52 #[.bool a0, .int .u64 a1, .int .i64 a2] w fun e w' => e = .returned (.int .i64 r) ∧ Below w.heap.size w w' := by
  have HB := Aside0.mk (Below.refl w.heap.size w)
  have H : (if a1 = 0 then ((latheref02_zero.f a0).bind fun t158 => (some t158)) else ((latheref02_length.f k a1).bind fun t159 => (if (wrap64 ((mx (wrap64 ((wrap64 (a2 + t159)) - 24)) (-149)) - a2)) ≤ 0 then (if 0 ≤ (IntKind.u64.wrap (wrap64 (-(wrap64 ((mx (wrap64 ((wrap64 (a2 + t159)) - 24)) (-149)) - a2))))) then (latheref02_Round.j0 k a0 (mx (wrap64 ((wrap64 (a2 + t159)) - 24)) (-149)) (shl .u64 a1 (IntKind.u64.wrap (wrap64 (-(wrap64 ((mx (wrap64 ((wrap64 (a2 + t159)) - 24)) (-149)) - a2))))))) else (none)) else ((latheref02_halved.f a1 (wrap64 ((mx (wrap64 ((wrap64 (a2 + t159)) - 24)) (-149)) - a2))).bind fun t160 => (latheref02_Round.j0 k a0 (mx (wrap64 ((wrap64 (a2 + t159)) - 24)) (-149)) t160))))) = some r := h
  clear h
  by_cases c4 : a1 = 0
  · rw [if_pos c4] at H
    have c4b0 : (a1 == 0) = true := beq_iff_eq.mpr c4
    have c4b1 : (a1 != 0) = false := bne_eq_false_iff_eq.mpr c4
    clear c4
    replace H := Option.bind_eq_some_iff.mp H
    obtain ⟨t158, A50, H⟩ := H
    replace H : (some t158) = some r := H
    have A5 := Aside0.mk A50
    clear A50
    obtain rfl := Option.some.inj H
    go_enter Tryd.func52, Tryd.ntmps52
    go_wp2_with (first | ((with_reducible refine gate_callee (f := 51) rfl ?_); refine goesL_ (some 14) rfl rfl Tryd.func51 (by kernel_rfl) rfl #[.bool a0] rfl (by (try simp only [List.map_toArray, List.map_cons, List.map_nil]); first | done | rfl | (simp only [List.length_drop, List.length_take]; rfl)) ?_; (with_reducible refine (latheref02_zero.calls a0 t158 _ A5.out).mono ?_); clear A5; rintro e w' ⟨rfl, ⟨nd, rfl⟩⟩; refine ⟨_, rfl, ?_⟩))
    go_ret
    exact ⟨by first | rfl | (simp [errW_none, errW_some] <;> rfl) | (simp [*, errW_none, errW_some] <;> rfl), by repeat (first | (with_reducible first | exact HB.out | apply below_alloc | apply pw_below_drewN | apply below_drew1) | exact HB.out)⟩
  · rw [if_neg c4] at H
    have c4b0 : (a1 == 0) = false := beq_eq_false_iff_ne.mpr c4
    have c4b1 : (a1 != 0) = true := bne_iff_ne.mpr c4
    replace H := Option.bind_eq_some_iff.mp H
    obtain ⟨t159, A60, H⟩ := H
    replace H : (if (wrap64 ((mx (wrap64 ((wrap64 (a2 + t159)) - 24)) (-149)) - a2)) ≤ 0 then (if 0 ≤ (IntKind.u64.wrap (wrap64 (-(wrap64 ((mx (wrap64 ((wrap64 (a2 + t159)) - 24)) (-149)) - a2))))) then (latheref02_Round.j0 k a0 (mx (wrap64 ((wrap64 (a2 + t159)) - 24)) (-149)) (shl .u64 a1 (IntKind.u64.wrap (wrap64 (-(wrap64 ((mx (wrap64 ((wrap64 (a2 + t159)) - 24)) (-149)) - a2))))))) else (none)) else ((latheref02_halved.f a1 (wrap64 ((mx (wrap64 ((wrap64 (a2 + t159)) - 24)) (-149)) - a2))).bind fun t160 => (latheref02_Round.j0 k a0 (mx (wrap64 ((wrap64 (a2 + t159)) - 24)) (-149)) t160))) = some r := H
    have A6 := Aside0.mk A60
    clear A60
    obtain ⟨ji7, hji7⟩ : ∃ j_ : Int, (mx (wrap64 ((wrap64 (a2 + t159)) - 24)) (-149)) = j_ := ⟨_, rfl⟩
    replace H : (if (wrap64 ((ji7) - a2)) ≤ 0 then (if 0 ≤ (IntKind.u64.wrap (wrap64 (-(wrap64 ((ji7) - a2))))) then (latheref02_Round.j0 k a0 ji7 (shl .u64 a1 (IntKind.u64.wrap (wrap64 (-(wrap64 ((ji7) - a2))))))) else (none)) else ((latheref02_halved.f a1 (wrap64 ((ji7) - a2))).bind fun t160 => (latheref02_Round.j0 k a0 ji7 t160))) = some r := by first | (rw [hji7] at H; exact H) | (simp only [hji7] at H ⊢; exact H)
    (try rw [hji7] at A6)
    have hji7_ : (if (wrap64 ((wrap64 (a2 + t159)) - 24)) < (-149) then (-149) else (wrap64 ((wrap64 (a2 + t159)) - 24))) = ji7 := hji7
    have HC8 := Aside0.mk H
    clear H
    go_enter Tryd.func52, Tryd.ntmps52
    go_upto_if 26 with (first | ((with_reducible refine gate_callee (f := 72) rfl ?_); refine goesL_ (some 17) rfl rfl Tryd.func72 (by kernel_rfl) rfl #[.int .u64 a1] rfl (by (try simp only [List.map_toArray, List.map_cons, List.map_nil]); first | done | rfl | (simp only [List.length_drop, List.length_take]; rfl)) ?_; (with_reducible refine (latheref02_length.calls k a1 t159 _ A6.out).mono ?_); clear A6; rintro e w' ⟨rfl, ⟨nd, rfl⟩⟩; refine ⟨_, rfl, ?_⟩))
    (try simp only [Act.put, List.setIfInBounds_toArray, List.set_cons_zero, List.set_cons_succ])
    go_cut [9] (fun v9 wc => ∃ (kq : Nat) (x9_7 : Int), v9 = .int .u64 x9_7 ∧ Aside0 (latheref02_Round.j0 kq a0 ji7 x9_7 = some r) ∧ Aside0 (kq ≤ k) ∧ Aside0 (Below w.heap.size w wc))
    case first =>
      have H := HC8.out
      clear HC8
      by_cases c9 : (wrap64 ((ji7) - a2)) ≤ 0
      · rw [if_pos c9] at H
        have c9b0 : decide ((wrap64 ((ji7) - a2)) ≤ 0) = true := decide_eq_true c9
        clear c9
        (first | rw [c9b0] | (simp only [i64_w, i32_w]; rw [c9b0]) | skip)
        obtain ⟨ji10, hji10⟩ : ∃ j_ : Int, (IntKind.u64.wrap (wrap64 (-(wrap64 ((ji7) - a2))))) = j_ := ⟨_, rfl⟩
        replace H : (if 0 ≤ (ji10) then (latheref02_Round.j0 k a0 ji7 (shl .u64 a1 (ji10))) else (none)) = some r := by first | (rw [hji10] at H; exact H) | (simp only [hji10] at H ⊢; exact H)
        by_cases c11 : 0 ≤ (ji10)
        · rw [if_pos c11] at H
          have c11b0 := eq_true c11
          have c11b1 : decide (0 ≤ (ji10)) = true := decide_eq_true c11
          clear c11
          obtain ⟨ji12, hji12⟩ : ∃ j_ : Int, (shl .u64 a1 (ji10)) = j_ := ⟨_, rfl⟩
          replace H : (latheref02_Round.j0 k a0 ji7 ji12) = some r := by first | (rw [hji12] at H; exact H) | (simp only [hji12] at H ⊢; exact H)
          have hji12_ : (IntKind.u64.wrap (a1 * 2 ^ min (ji10).toNat 64)) = ji12 := hji12
          have hji12z : (ji10) ≤ 64 → (IntKind.u64.wrap (a1 * 2 ^ (ji10).toNat)) = ji12 := shl_small hji12
          have H' := Aside0.mk H
          clear H
          go_wp2
          go_meet
          case rel => exact ⟨_, (ji12), (by first | rfl | (simp; done) | (simp only [← hji12] <;> (first | rfl | simp)) | (simp [*]; done)), (by first | exact H' | (rw [hji12]; exact H') | (rw [hji10]; exact H') | (rw [hji7]; exact H')), ⟨by first | omega | exact Nat.le_refl _⟩, ⟨by repeat (first | (with_reducible first | exact HB.out | apply below_alloc | apply pw_below_drewN | apply below_drew1) | exact HB.out)⟩⟩
        · rw [if_neg c11] at H
          exact absurd H (by simp)
      · rw [if_neg c9] at H
        have c9b0 : decide ((wrap64 ((ji7) - a2)) ≤ 0) = false := decide_eq_false c9
        clear c9
        (first | rw [c9b0] | (simp only [i64_w, i32_w]; rw [c9b0]) | skip)
        replace H := Option.bind_eq_some_iff.mp H
        obtain ⟨t160, A130, H⟩ := H
        replace H : (latheref02_Round.j0 k a0 ji7 t160) = some r := H
        have A13 := Aside0.mk A130
        clear A130
        have H' := Aside0.mk H
        clear H
        go_wp2_with (first | ((with_reducible refine gate_callee (f := 73) rfl ?_); refine goesL_ (some 34) rfl rfl Tryd.func73 (by kernel_rfl) rfl #[.int .u64 a1, .int .i64 (wrap64 ((ji7) - a2))] rfl (by (try simp only [List.map_toArray, List.map_cons, List.map_nil]); first | done | (simp only [hji7]; rfl) | rfl | (simp only [List.length_drop, List.length_take]; rfl)) ?_; (with_reducible refine (latheref02_halved.calls a1 (wrap64 ((ji7) - a2)) t160 _ A13.out).mono ?_); clear A13; rintro e w' ⟨rfl, ⟨nd, rfl⟩⟩; refine ⟨_, rfl, ?_⟩))
        go_meet
        case rel => exact ⟨_, (t160), (by first | rfl | (simp; done) | (simp [*]; done)), (by first | exact H' | (rw [hji12]; exact H') | (rw [hji10]; exact H') | (rw [hji7]; exact H')), ⟨by first | omega | exact Nat.le_refl _⟩, ⟨by repeat (first | (with_reducible first | exact HB.out | apply below_alloc | apply pw_below_drewN | apply below_drew1) | exact HB.out)⟩⟩
    case rest =>
      clear HC8
      try clear c1
      try clear p2
      try clear c4
      try clear c4b0
      try clear c4b1
      try clear c5
      try clear p6
      try clear c7
      try clear c9
      try clear c9b0
      try clear c11
      try clear c11b0
      try clear c11b1
      obtain ⟨kq, x9_7, rfl, HA, HJ7, HB⟩ := hcut
      cases kq with
      | zero => exact absurd HA.out (by simp [latheref02_Round.j0])
      | succ kj7 =>
        have H := HA.out
        clear HA
        simp only [latheref02_Round.j0] at H
        have HC14 := Aside0.mk H
        clear H
        go_upto_if 36 with (fail)
        go_cut [7, 9] (fun v7 v9 wc => ∃ (kq : Nat) (x7_13 : Int) (x9_13 : Int), v7 = .int .i64 x7_13 ∧ v9 = .int .u64 x9_13 ∧ Aside0 (latheref02_Round.j1 kq a0 x7_13 x9_13 = some r) ∧ Aside0 (kq ≤ kj7) ∧ Aside0 (Below w.heap.size w wc))
        case first =>
          have H := HC14.out
          clear HC14
          by_cases c15 : x9_7 = 16777216
          · rw [if_pos c15] at H
            have c15b0 : (x9_7 == 16777216) = true := beq_iff_eq.mpr c15
            have c15b1 : (x9_7 != 16777216) = false := bne_eq_false_iff_eq.mpr c15
            clear c15
            (first | rw [c15b0] | (simp only [i64_w, i32_w]; rw [c15b0]) | skip)
            have H' := Aside0.mk H
            clear H
            go_wp2
            go_meet
            case rel => exact ⟨_, (wrap64 (ji7 + 1)), (8388608), (by first | rfl | (simp; done) | (simp only [← hji7] <;> (first | rfl | simp)) | (simp [*]; done)), (by first | rfl | (simp; done) | (simp [*]; done)), H', ⟨by have := HJ7.out; first | omega | exact Nat.le_refl _⟩, ⟨by repeat (first | (with_reducible first | exact HB.out | apply below_alloc | apply pw_below_drewN | apply below_drew1) | exact HB.out)⟩⟩
          · rw [if_neg c15] at H
            have c15b0 : (x9_7 == 16777216) = false := beq_eq_false_iff_ne.mpr c15
            have c15b1 : (x9_7 != 16777216) = true := bne_iff_ne.mpr c15
            (first | rw [c15b0] | (simp only [i64_w, i32_w]; rw [c15b0]) | skip)
            have H' := Aside0.mk H
            clear H
            go_wp2
            go_meet
            case rel => exact ⟨_, (ji7), (x9_7), (by first | rfl | (simp; done) | (simp only [← hji7] <;> (first | rfl | simp)) | (simp [*]; done)), (by first | rfl | (simp; done) | (simp [*]; done)), H', ⟨by have := HJ7.out; first | omega | exact Nat.le_refl _⟩, ⟨by repeat (first | (with_reducible first | exact HB.out | apply below_alloc | apply pw_below_drewN | apply below_drew1) | exact HB.out)⟩⟩
        case rest =>
          clear HC14
          try clear c1
          try clear p2
          try clear c4
          try clear c4b0
          try clear c4b1
          try clear c5
          try clear p6
          try clear c7
          try clear c9
          try clear c9b0
          try clear c11
          try clear c11b0
          try clear c11b1
          try clear c15
          try clear c15b0
          try clear c15b1
          try clear p2
          try clear p6
          obtain ⟨kq, x7_13, x9_13, rfl, rfl, HA, HJ13, HB⟩ := hcut
          cases kq with
          | zero => exact absurd HA.out (by simp [latheref02_Round.j1])
          | succ kj13 =>
            have H := HA.out
            clear HA
            simp only [latheref02_Round.j1] at H
            by_cases c16 : x9_13 < 8388608
            · rw [if_pos c16] at H
              have c16b0 : decide (x9_13 < 8388608) = true := decide_eq_true c16
              clear c16
              replace H := Option.bind_eq_some_iff.mp H
              obtain ⟨t161, A170, H⟩ := H
              replace H : (some (wrap64 (IntKind.u64.wrap (t161 + x9_13)))) = some r := H
              have A17 := Aside0.mk A170
              clear A170
              obtain rfl := Option.some.inj H
              go_wp2_with (first | ((with_reducible refine gate_callee (f := 71) rfl ?_); refine goesL_ (some 42) rfl rfl Tryd.func71 (by kernel_rfl) rfl #[.bool a0] rfl (by (try simp only [List.map_toArray, List.map_cons, List.map_nil]); first | done | rfl | (simp only [List.length_drop, List.length_take]; rfl)) ?_; (with_reducible refine (latheref02_sign.calls a0 t161 _ A17.out).mono ?_); clear A17; rintro e w' ⟨rfl, ⟨nd, rfl⟩⟩; refine ⟨_, rfl, ?_⟩))
              go_ret
              exact ⟨by first | rfl | (simp [errW_none, errW_some] <;> rfl) | (simp only [← hji7]; first | rfl | (simp [errW_none, errW_some] <;> rfl)) | (simp [*, errW_none, errW_some] <;> rfl), by repeat (first | (with_reducible first | exact HB.out | apply below_alloc | apply pw_below_drewN | apply below_drew1) | exact HB.out)⟩
            · rw [if_neg c16] at H
              have c16b0 : decide (x9_13 < 8388608) = false := decide_eq_false c16
              clear c16
              by_cases c18 : (wrap64 (x7_13 + 150)) ≥ 255
              · rw [if_pos c18] at H
                have c18b0 : decide (255 ≤ (wrap64 (x7_13 + 150))) = true := decide_eq_true c18
                clear c18
                replace H := Option.bind_eq_some_iff.mp H
                obtain ⟨t162, A190, H⟩ := H
                replace H : (some t162) = some r := H
                have A19 := Aside0.mk A190
                clear A190
                obtain rfl := Option.some.inj H
                go_wp2_with (first | ((with_reducible refine gate_callee (f := 50) rfl ?_); refine goesL_ (some 51) rfl rfl Tryd.func50 (by kernel_rfl) rfl #[.bool a0] rfl (by (try simp only [List.map_toArray, List.map_cons, List.map_nil]); first | done | rfl | (simp only [List.length_drop, List.length_take]; rfl)) ?_; (with_reducible refine (latheref02_infinite.calls a0 t162 _ A19.out).mono ?_); clear A19; rintro e w' ⟨rfl, ⟨nd, rfl⟩⟩; refine ⟨_, rfl, ?_⟩))
                go_ret
                exact ⟨by first | rfl | (simp [errW_none, errW_some] <;> rfl) | (simp only [← hji7]; first | rfl | (simp [errW_none, errW_some] <;> rfl)) | (simp [*, errW_none, errW_some] <;> rfl), by repeat (first | (with_reducible first | exact HB.out | apply below_alloc | apply pw_below_drewN | apply below_drew1) | exact HB.out)⟩
              · rw [if_neg c18] at H
                have c18b0 : decide (255 ≤ (wrap64 (x7_13 + 150))) = false := decide_eq_false c18
                clear c18
                replace H := Option.bind_eq_some_iff.mp H
                obtain ⟨t163, A200, H⟩ := H
                replace H : (some (wrap64 (IntKind.u64.wrap ((IntKind.u64.wrap ((IntKind.u64.wrap (t163 + (IntKind.u64.wrap ((IntKind.u64.wrap (wrap64 (x7_13 + 150))) * 8388608)))) + x9_13)) - 8388608)))) = some r := H
                have A20 := Aside0.mk A200
                clear A200
                obtain rfl := Option.some.inj H
                go_wp2_with (first | ((with_reducible refine gate_callee (f := 71) rfl ?_); refine goesL_ (some 53) rfl rfl Tryd.func71 (by kernel_rfl) rfl #[.bool a0] rfl (by (try simp only [List.map_toArray, List.map_cons, List.map_nil]); first | done | rfl | (simp only [List.length_drop, List.length_take]; rfl)) ?_; (with_reducible refine (latheref02_sign.calls a0 t163 _ A20.out).mono ?_); clear A20; rintro e w' ⟨rfl, ⟨nd, rfl⟩⟩; refine ⟨_, rfl, ?_⟩))
                go_ret
                exact ⟨by first | rfl | (simp [errW_none, errW_some] <;> rfl) | (simp only [← hji7]; first | rfl | (simp [errW_none, errW_some] <;> rfl)) | (simp [*, errW_none, errW_some] <;> rfl), by repeat (first | (with_reducible first | exact HB.out | apply below_alloc | apply pw_below_drewN | apply below_drew1) | exact HB.out)⟩

end Go.Proofs.YtmfladkimmnccaaDoor.PW
