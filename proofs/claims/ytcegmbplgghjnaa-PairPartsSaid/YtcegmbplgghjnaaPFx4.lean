/- The functions of the program that a statement reaches, as plain functions, and that the machine's calls do what these say. No condition. (Printed by a program.) -/
import Derived.Test.YtcegmbplgghjnaaPFx0
import Derived.Test.YtcegmbplgghjnaaPFx2
import Derived.Test.YtcegmbplgghjnaaPFx3
namespace Go.Proofs.Ytcegmbplgghjnaa.PF
open Go.RowKit Go.Proofs.YtcegmbplgghjnaaW.PrintWords Go.Proofs.YtcegmbplgghjnaaW.PrintLast Go.Proofs.YtcegmbplgghjnaaW.PrintMore
attribute [local go_sem] max2_int min2_int max_two min_two max_three min_three max_four min_four   -- for this text's walks alone
set_option linter.unusedVariables false
set_option linter.unusedSimpArgs false

/-! ### float_Div: function 51 (given) -/
def float_Div.f (a0 : Int) (a1 : Int) : Option (Int) := some (Lathe.fdiv a0.toNat a1.toNat : Nat)
theorem float_Div.calls (a0 : Int) (a1 : Int) (r : Int) (w : World) (h : float_Div.f a0 a1 = some r) :
    Calls Try.prog 51 #[.int .u32 a0, .int .u32 a1] w fun e w' => e = .returned (.int .u32 r) ∧ Drawn0 w w' := by
  have h := Option.some.inj h
  subst h
  exact Flo.Div a0 a1 w


/-! ### float_Add: function 53 (given) -/
def float_Add.f (a0 : Int) (a1 : Int) : Option (Int) := some (Lathe.fadd a0.toNat a1.toNat : Nat)
theorem float_Add.calls (a0 : Int) (a1 : Int) (r : Int) (w : World) (h : float_Add.f a0 a1 = some r) :
    Calls Try.prog 53 #[.int .u32 a0, .int .u32 a1] w fun e w' => e = .returned (.int .u32 r) ∧ Drawn0 w w' := by
  have h := Option.some.inj h
  subst h
  exact Flo.Add a0 a1 w


-- NOT PRINTED: function 114 (math_sqrt)

-- NOT PRINTED: function 104 (math_Sqrt)

/-! ### float_Sqrt: function 60 (given) -/
def float_Sqrt.f (a0 : Int) : Option (Int) := some (Lathe.fsqrt a0.toNat : Nat)
theorem float_Sqrt.calls (a0 : Int) (r : Int) (w : World) (h : float_Sqrt.f a0 = some r) :
    Calls Try.prog 60 #[.int .u32 a0] w fun e w' => e = .returned (.int .u32 r) ∧ Drawn0 w w' := by
  have h := Option.some.inj h
  subst h
  exact Flo.Sqrt a0 w


/-! ### float_Less: function 67 (given) -/
def float_Less.f (a0 : Int) (a1 : Int) : Option (Bool) := some (Lathe.flt a0.toNat a1.toNat)
theorem float_Less.calls (a0 : Int) (a1 : Int) (r : Bool) (w : World) (h : float_Less.f a0 a1 = some r) :
    Calls Try.prog 67 #[.int .u32 a0, .int .u32 a1] w fun e w' => e = .returned (.bool r) ∧ Drawn0 w w' := by
  have h := Option.some.inj h
  subst h
  exact (Flo.Less a0 a1 w).mono fun e w' h => ⟨h.1, h.2 ▸ Drawn0.refl _⟩


/-! ### float_FromInt: function 69 (given) -/
def float_FromInt.f (a0 : Int) : Option (Int) := some (Lathe.tl (Lathe.fint a0) : Nat)
theorem float_FromInt.calls (a0 : Int) (r : Int) (w : World) (h : float_FromInt.f a0 = some r) :
    Calls Try.prog 69 #[.int .i64 a0] w fun e w' => e = .returned (.int .u32 r) ∧ Drawn0 w w' := by
  have h := Option.some.inj h
  subst h
  exact (Flo.FromInt a0 w).mono fun e w' h => ⟨h.1, h.2 ▸ Drawn0.refl _⟩


/-! ### lathelaw02_works: function 50 -/
def lathelaw02_works.f  : Option (Bool) := (float_Add.f 1065353216 864026624).bind fun t126 => (if t126 = 1065353216 then ((float_Mul.f 1073741824 1077936128).bind fun t127 => (if t127 = 1086324736 then ((float_Div.f 1065353216 1077936128).bind fun t128 => (if t128 = 1051372203 then ((float_Sqrt.f 1073741824).bind fun t129 => (if t129 = 1068827891 then ((float_FromInt.f 16777217).bind fun t130 => (if t130 = 1266679808 then ((float_Less.f 0 1065353216).bind fun t131 => (some t131)) else (some false))) else (some false))) else (some false))) else (some false))) else (some false))
set_option maxHeartbeats 8000000 in
set_option maxRecDepth 100000 in
theorem lathelaw02_works.calls  (r : Bool) (w : World) (h : lathelaw02_works.f  = some r) :
    Calls Try.prog 50 #[] w fun e w' => e = .returned (.bool r) ∧ Drawn0 w w' := by
  have H : ((float_Add.f 1065353216 864026624).bind fun t126 => (if t126 = 1065353216 then ((float_Mul.f 1073741824 1077936128).bind fun t127 => (if t127 = 1086324736 then ((float_Div.f 1065353216 1077936128).bind fun t128 => (if t128 = 1051372203 then ((float_Sqrt.f 1073741824).bind fun t129 => (if t129 = 1068827891 then ((float_FromInt.f 16777217).bind fun t130 => (if t130 = 1266679808 then ((float_Less.f 0 1065353216).bind fun t131 => (some t131)) else (some false))) else (some false))) else (some false))) else (some false))) else (some false))) = some r := h
  clear h
  replace H := Option.bind_eq_some_iff.mp H
  obtain ⟨t126, A10, H⟩ := H
  replace H : (if t126 = 1065353216 then ((float_Mul.f 1073741824 1077936128).bind fun t127 => (if t127 = 1086324736 then ((float_Div.f 1065353216 1077936128).bind fun t128 => (if t128 = 1051372203 then ((float_Sqrt.f 1073741824).bind fun t129 => (if t129 = 1068827891 then ((float_FromInt.f 16777217).bind fun t130 => (if t130 = 1266679808 then ((float_Less.f 0 1065353216).bind fun t131 => (some t131)) else (some false))) else (some false))) else (some false))) else (some false))) else (some false)) = some r := H
  have A1 := Aside0.mk A10
  clear A10
  by_cases c2 : t126 = 1065353216
  · rw [if_pos c2] at H
    have c2b0 : (t126 == 1065353216) = true := beq_iff_eq.mpr c2
    have c2b1 : (t126 != 1065353216) = false := bne_eq_false_iff_eq.mpr c2
    clear c2
    replace H := Option.bind_eq_some_iff.mp H
    obtain ⟨t127, A30, H⟩ := H
    replace H : (if t127 = 1086324736 then ((float_Div.f 1065353216 1077936128).bind fun t128 => (if t128 = 1051372203 then ((float_Sqrt.f 1073741824).bind fun t129 => (if t129 = 1068827891 then ((float_FromInt.f 16777217).bind fun t130 => (if t130 = 1266679808 then ((float_Less.f 0 1065353216).bind fun t131 => (some t131)) else (some false))) else (some false))) else (some false))) else (some false)) = some r := H
    have A3 := Aside0.mk A30
    clear A30
    by_cases c4 : t127 = 1086324736
    · rw [if_pos c4] at H
      have c4b0 : (t127 == 1086324736) = true := beq_iff_eq.mpr c4
      have c4b1 : (t127 != 1086324736) = false := bne_eq_false_iff_eq.mpr c4
      clear c4
      replace H := Option.bind_eq_some_iff.mp H
      obtain ⟨t128, A50, H⟩ := H
      replace H : (if t128 = 1051372203 then ((float_Sqrt.f 1073741824).bind fun t129 => (if t129 = 1068827891 then ((float_FromInt.f 16777217).bind fun t130 => (if t130 = 1266679808 then ((float_Less.f 0 1065353216).bind fun t131 => (some t131)) else (some false))) else (some false))) else (some false)) = some r := H
      have A5 := Aside0.mk A50
      clear A50
      by_cases c6 : t128 = 1051372203
      · rw [if_pos c6] at H
        have c6b0 : (t128 == 1051372203) = true := beq_iff_eq.mpr c6
        have c6b1 : (t128 != 1051372203) = false := bne_eq_false_iff_eq.mpr c6
        clear c6
        replace H := Option.bind_eq_some_iff.mp H
        obtain ⟨t129, A70, H⟩ := H
        replace H : (if t129 = 1068827891 then ((float_FromInt.f 16777217).bind fun t130 => (if t130 = 1266679808 then ((float_Less.f 0 1065353216).bind fun t131 => (some t131)) else (some false))) else (some false)) = some r := H
        have A7 := Aside0.mk A70
        clear A70
        by_cases c8 : t129 = 1068827891
        · rw [if_pos c8] at H
          have c8b0 : (t129 == 1068827891) = true := beq_iff_eq.mpr c8
          have c8b1 : (t129 != 1068827891) = false := bne_eq_false_iff_eq.mpr c8
          clear c8
          replace H := Option.bind_eq_some_iff.mp H
          obtain ⟨t130, A90, H⟩ := H
          replace H : (if t130 = 1266679808 then ((float_Less.f 0 1065353216).bind fun t131 => (some t131)) else (some false)) = some r := H
          have A9 := Aside0.mk A90
          clear A90
          by_cases c10 : t130 = 1266679808
          · rw [if_pos c10] at H
            have c10b0 : (t130 == 1266679808) = true := beq_iff_eq.mpr c10
            have c10b1 : (t130 != 1266679808) = false := bne_eq_false_iff_eq.mpr c10
            clear c10
            replace H := Option.bind_eq_some_iff.mp H
            obtain ⟨t131, A110, H⟩ := H
            replace H : (some t131) = some r := H
            have A11 := Aside0.mk A110
            clear A110
            obtain rfl := Option.some.inj H
            go_enter Try.func50, Try.ntmps50
            go_wp2_with (first | ((with_reducible refine gate_callee (f := 53) rfl ?_); refine goesL_ (some 1) rfl rfl Try.func53 (by kernel_rfl) rfl #[.int .u32 1065353216, .int .u32 864026624] rfl (by (try simp only [List.map_toArray, List.map_cons, List.map_nil]); first | done | rfl | (simp only [List.length_drop, List.length_take]; rfl)) ?_; (with_reducible refine (float_Add.calls 1065353216 864026624 t126 _ A1.out).mono ?_); rintro e w' ⟨rfl, ⟨nd, rfl⟩⟩; refine ⟨_, rfl, ?_⟩) | (go_at_call 48; (with_reducible refine (float_Mul.calls 1073741824 1077936128 t127 _ A3.out).mono ?_); clear A3; rintro e w' ⟨rfl, ⟨nd, rfl⟩⟩) | (go_at_call 51; (with_reducible refine (float_Div.calls 1065353216 1077936128 t128 _ A5.out).mono ?_); clear A5; rintro e w' ⟨rfl, ⟨nd, rfl⟩⟩) | (go_at_call 60; (with_reducible refine (float_Sqrt.calls 1073741824 t129 _ A7.out).mono ?_); clear A7; rintro e w' ⟨rfl, ⟨nd, rfl⟩⟩) | (go_at_call 69; (with_reducible refine (float_FromInt.calls 16777217 t130 _ A9.out).mono ?_); clear A9; rintro e w' ⟨rfl, ⟨nd, rfl⟩⟩) | (go_at_call 67; (with_reducible refine (float_Less.calls 0 1065353216 t131 _ A11.out).mono ?_); clear A11; rintro e w' ⟨rfl, ⟨nd, rfl⟩⟩))
            go_ret
            exact ⟨by first | rfl | (simp; done) | (simp [*]; done), by repeat (first | exact Drawn0.refl _ | apply Drawn0.step)⟩
          · rw [if_neg c10] at H
            have c10b0 : (t130 == 1266679808) = false := beq_eq_false_iff_ne.mpr c10
            have c10b1 : (t130 != 1266679808) = true := bne_iff_ne.mpr c10
            obtain rfl := Option.some.inj H
            go_enter Try.func50, Try.ntmps50
            go_wp2_with (first | ((with_reducible refine gate_callee (f := 53) rfl ?_); refine goesL_ (some 1) rfl rfl Try.func53 (by kernel_rfl) rfl #[.int .u32 1065353216, .int .u32 864026624] rfl (by (try simp only [List.map_toArray, List.map_cons, List.map_nil]); first | done | rfl | (simp only [List.length_drop, List.length_take]; rfl)) ?_; (with_reducible refine (float_Add.calls 1065353216 864026624 t126 _ A1.out).mono ?_); rintro e w' ⟨rfl, ⟨nd, rfl⟩⟩; refine ⟨_, rfl, ?_⟩) | (go_at_call 48; (with_reducible refine (float_Mul.calls 1073741824 1077936128 t127 _ A3.out).mono ?_); clear A3; rintro e w' ⟨rfl, ⟨nd, rfl⟩⟩) | (go_at_call 51; (with_reducible refine (float_Div.calls 1065353216 1077936128 t128 _ A5.out).mono ?_); clear A5; rintro e w' ⟨rfl, ⟨nd, rfl⟩⟩) | (go_at_call 60; (with_reducible refine (float_Sqrt.calls 1073741824 t129 _ A7.out).mono ?_); clear A7; rintro e w' ⟨rfl, ⟨nd, rfl⟩⟩) | (go_at_call 69; (with_reducible refine (float_FromInt.calls 16777217 t130 _ A9.out).mono ?_); clear A9; rintro e w' ⟨rfl, ⟨nd, rfl⟩⟩))
            go_ret
            exact ⟨by first | rfl | (simp; done) | (simp [*]; done), by repeat (first | exact Drawn0.refl _ | apply Drawn0.step)⟩
        · rw [if_neg c8] at H
          have c8b0 : (t129 == 1068827891) = false := beq_eq_false_iff_ne.mpr c8
          have c8b1 : (t129 != 1068827891) = true := bne_iff_ne.mpr c8
          obtain rfl := Option.some.inj H
          go_enter Try.func50, Try.ntmps50
          go_wp2_with (first | ((with_reducible refine gate_callee (f := 53) rfl ?_); refine goesL_ (some 1) rfl rfl Try.func53 (by kernel_rfl) rfl #[.int .u32 1065353216, .int .u32 864026624] rfl (by (try simp only [List.map_toArray, List.map_cons, List.map_nil]); first | done | rfl | (simp only [List.length_drop, List.length_take]; rfl)) ?_; (with_reducible refine (float_Add.calls 1065353216 864026624 t126 _ A1.out).mono ?_); rintro e w' ⟨rfl, ⟨nd, rfl⟩⟩; refine ⟨_, rfl, ?_⟩) | (go_at_call 48; (with_reducible refine (float_Mul.calls 1073741824 1077936128 t127 _ A3.out).mono ?_); clear A3; rintro e w' ⟨rfl, ⟨nd, rfl⟩⟩) | (go_at_call 51; (with_reducible refine (float_Div.calls 1065353216 1077936128 t128 _ A5.out).mono ?_); clear A5; rintro e w' ⟨rfl, ⟨nd, rfl⟩⟩) | (go_at_call 60; (with_reducible refine (float_Sqrt.calls 1073741824 t129 _ A7.out).mono ?_); clear A7; rintro e w' ⟨rfl, ⟨nd, rfl⟩⟩))
          go_ret
          exact ⟨by first | rfl | (simp; done) | (simp [*]; done), by repeat (first | exact Drawn0.refl _ | apply Drawn0.step)⟩
      · rw [if_neg c6] at H
        have c6b0 : (t128 == 1051372203) = false := beq_eq_false_iff_ne.mpr c6
        have c6b1 : (t128 != 1051372203) = true := bne_iff_ne.mpr c6
        obtain rfl := Option.some.inj H
        go_enter Try.func50, Try.ntmps50
        go_wp2_with (first | ((with_reducible refine gate_callee (f := 53) rfl ?_); refine goesL_ (some 1) rfl rfl Try.func53 (by kernel_rfl) rfl #[.int .u32 1065353216, .int .u32 864026624] rfl (by (try simp only [List.map_toArray, List.map_cons, List.map_nil]); first | done | rfl | (simp only [List.length_drop, List.length_take]; rfl)) ?_; (with_reducible refine (float_Add.calls 1065353216 864026624 t126 _ A1.out).mono ?_); rintro e w' ⟨rfl, ⟨nd, rfl⟩⟩; refine ⟨_, rfl, ?_⟩) | (go_at_call 48; (with_reducible refine (float_Mul.calls 1073741824 1077936128 t127 _ A3.out).mono ?_); clear A3; rintro e w' ⟨rfl, ⟨nd, rfl⟩⟩) | (go_at_call 51; (with_reducible refine (float_Div.calls 1065353216 1077936128 t128 _ A5.out).mono ?_); clear A5; rintro e w' ⟨rfl, ⟨nd, rfl⟩⟩))
        go_ret
        exact ⟨by first | rfl | (simp; done) | (simp [*]; done), by repeat (first | exact Drawn0.refl _ | apply Drawn0.step)⟩
    · rw [if_neg c4] at H
      have c4b0 : (t127 == 1086324736) = false := beq_eq_false_iff_ne.mpr c4
      have c4b1 : (t127 != 1086324736) = true := bne_iff_ne.mpr c4
      obtain rfl := Option.some.inj H
      go_enter Try.func50, Try.ntmps50
      go_wp2_with (first | ((with_reducible refine gate_callee (f := 53) rfl ?_); refine goesL_ (some 1) rfl rfl Try.func53 (by kernel_rfl) rfl #[.int .u32 1065353216, .int .u32 864026624] rfl (by (try simp only [List.map_toArray, List.map_cons, List.map_nil]); first | done | rfl | (simp only [List.length_drop, List.length_take]; rfl)) ?_; (with_reducible refine (float_Add.calls 1065353216 864026624 t126 _ A1.out).mono ?_); rintro e w' ⟨rfl, ⟨nd, rfl⟩⟩; refine ⟨_, rfl, ?_⟩) | (go_at_call 48; (with_reducible refine (float_Mul.calls 1073741824 1077936128 t127 _ A3.out).mono ?_); clear A3; rintro e w' ⟨rfl, ⟨nd, rfl⟩⟩))
      go_ret
      exact ⟨by first | rfl | (simp; done) | (simp [*]; done), by repeat (first | exact Drawn0.refl _ | apply Drawn0.step)⟩
  · rw [if_neg c2] at H
    have c2b0 : (t126 == 1065353216) = false := beq_eq_false_iff_ne.mpr c2
    have c2b1 : (t126 != 1065353216) = true := bne_iff_ne.mpr c2
    obtain rfl := Option.some.inj H
    go_enter Try.func50, Try.ntmps50
    go_wp2_with (first | ((with_reducible refine gate_callee (f := 53) rfl ?_); refine goesL_ (some 1) rfl rfl Try.func53 (by kernel_rfl) rfl #[.int .u32 1065353216, .int .u32 864026624] rfl (by (try simp only [List.map_toArray, List.map_cons, List.map_nil]); first | done | rfl | (simp only [List.length_drop, List.length_take]; rfl)) ?_; (with_reducible refine (float_Add.calls 1065353216 864026624 t126 _ A1.out).mono ?_); rintro e w' ⟨rfl, ⟨nd, rfl⟩⟩; refine ⟨_, rfl, ?_⟩))
    go_ret
    exact ⟨by first | rfl | (simp; done) | (simp [*]; done), by repeat (first | exact Drawn0.refl _ | apply Drawn0.step)⟩

/-! ### lathelaw02_FloatMuls: function 9 -/
def lathelaw02_FloatMuls.f (k : Nat) (a0 : Int) (a1 : Int) : Option (Bool) := (float_Mul.f a0 a1).bind fun t132 => ((lathelaw02_n.f t132).bind fun t133 => ((lathelaw02_n.f a0).bind fun t134 => ((lathelaw02_n.f a1).bind fun t135 => ((latheref02_Mul.f k t134 t135).bind fun t136 => (if t133 = t136 then ((lathelaw02_works.f).bind fun t137 => (some t137)) else (some false))))))
theorem lathelaw02_FloatMuls.mono : ∀ a0 a1 k, LeO (lathelaw02_FloatMuls.f k a0 a1) (lathelaw02_FloatMuls.f (k + 1) a0 a1) := by
  intro a0 a1 k
  unfold lathelaw02_FloatMuls.f
  repeat' first
      | (with_reducible exact latheref02_Mul.mono _ _ _)
      | (with_reducible exact LeO.refl _)
      | (with_reducible exact LeO.none _)
      | (with_reducible refine LeO.ite ?_ ?_)
      | (with_reducible refine LeO.bind ?_ (fun _ => ?_))
      | exact latheref02_Mul.mono _ _ _
      | exact LeO.none _
      | refine LeO.ite ?_ ?_
      | refine LeO.bind ?_ (fun _ => ?_)
set_option maxHeartbeats 8000000 in
set_option maxRecDepth 100000 in
theorem lathelaw02_FloatMuls.calls (k : Nat) (a0 : Int) (a1 : Int) (r : Bool) (w : World) (h : lathelaw02_FloatMuls.f k a0 a1 = some r) :
    Calls Try.prog 9 #[.int .u32 a0, .int .u32 a1] w fun e w' => e = .returned (.bool r) ∧ Below w.heap.size w w' := by
  have HB := Aside0.mk (Below.refl w.heap.size w)
  have H : ((float_Mul.f a0 a1).bind fun t132 => ((lathelaw02_n.f t132).bind fun t133 => ((lathelaw02_n.f a0).bind fun t134 => ((lathelaw02_n.f a1).bind fun t135 => ((latheref02_Mul.f k t134 t135).bind fun t136 => (if t133 = t136 then ((lathelaw02_works.f).bind fun t137 => (some t137)) else (some false))))))) = some r := h
  clear h
  replace H := Option.bind_eq_some_iff.mp H
  obtain ⟨t132, A30, H⟩ := H
  replace H : ((lathelaw02_n.f t132).bind fun t133 => ((lathelaw02_n.f a0).bind fun t134 => ((lathelaw02_n.f a1).bind fun t135 => ((latheref02_Mul.f k t134 t135).bind fun t136 => (if t133 = t136 then ((lathelaw02_works.f).bind fun t137 => (some t137)) else (some false)))))) = some r := H
  have A3 := Aside0.mk A30
  clear A30
  replace H := Option.bind_eq_some_iff.mp H
  obtain ⟨t133, A40, H⟩ := H
  replace H : ((lathelaw02_n.f a0).bind fun t134 => ((lathelaw02_n.f a1).bind fun t135 => ((latheref02_Mul.f k t134 t135).bind fun t136 => (if t133 = t136 then ((lathelaw02_works.f).bind fun t137 => (some t137)) else (some false))))) = some r := H
  have A4 := Aside0.mk A40
  clear A40
  replace H := Option.bind_eq_some_iff.mp H
  obtain ⟨t134, A50, H⟩ := H
  replace H : ((lathelaw02_n.f a1).bind fun t135 => ((latheref02_Mul.f k t134 t135).bind fun t136 => (if t133 = t136 then ((lathelaw02_works.f).bind fun t137 => (some t137)) else (some false)))) = some r := H
  have A5 := Aside0.mk A50
  clear A50
  replace H := Option.bind_eq_some_iff.mp H
  obtain ⟨t135, A60, H⟩ := H
  replace H : ((latheref02_Mul.f k t134 t135).bind fun t136 => (if t133 = t136 then ((lathelaw02_works.f).bind fun t137 => (some t137)) else (some false))) = some r := H
  have A6 := Aside0.mk A60
  clear A60
  replace H := Option.bind_eq_some_iff.mp H
  obtain ⟨t136, A70, H⟩ := H
  replace H : (if t133 = t136 then ((lathelaw02_works.f).bind fun t137 => (some t137)) else (some false)) = some r := H
  have A7 := Aside0.mk A70
  clear A70
  by_cases c8 : t133 = t136
  · rw [if_pos c8] at H
    have c8b0 : (t133 == t136) = true := beq_iff_eq.mpr c8
    have c8b1 : (t133 != t136) = false := bne_eq_false_iff_eq.mpr c8
    clear c8
    replace H := Option.bind_eq_some_iff.mp H
    obtain ⟨t137, A90, H⟩ := H
    replace H : (some t137) = some r := H
    have A9 := Aside0.mk A90
    clear A90
    obtain rfl := Option.some.inj H
    go_enter Try.func9, Try.ntmps9
    go_wp2_with (first | ((with_reducible refine gate_callee (f := 48) rfl ?_); refine goesL_ (some 7) rfl rfl Try.func48 (by kernel_rfl) rfl #[.int .u32 a0, .int .u32 a1] rfl (by (try simp only [List.map_toArray, List.map_cons, List.map_nil]); first | done | rfl | (simp only [List.length_drop, List.length_take]; rfl)) ?_; (with_reducible refine (float_Mul.calls a0 a1 t132 _ A3.out).mono ?_); rintro e w' ⟨rfl, ⟨nd, rfl⟩⟩; refine ⟨_, rfl, ?_⟩) | ((with_reducible refine gate_callee (f := 47) rfl ?_); refine goesL_ (some 8) rfl rfl Try.func47 (by kernel_rfl) rfl #[.int .u32 t132] rfl (by (try simp only [List.map_toArray, List.map_cons, List.map_nil]); first | done | rfl | (simp only [List.length_drop, List.length_take]; rfl)) ?_; (with_reducible refine (lathelaw02_n.calls t132 t133 _ A4.out).mono ?_); rintro e w' ⟨rfl, ⟨nd, rfl⟩⟩; refine ⟨_, rfl, ?_⟩) | ((with_reducible refine gate_callee (f := 47) rfl ?_); refine goesL_ (some 10) rfl rfl Try.func47 (by kernel_rfl) rfl #[.int .u32 a0] rfl (by (try simp only [List.map_toArray, List.map_cons, List.map_nil]); first | done | rfl | (simp only [List.length_drop, List.length_take]; rfl)) ?_; (with_reducible refine (lathelaw02_n.calls a0 t134 _ A5.out).mono ?_); rintro e w' ⟨rfl, ⟨nd, rfl⟩⟩; refine ⟨_, rfl, ?_⟩) | ((with_reducible refine gate_callee (f := 47) rfl ?_); refine goesL_ (some 12) rfl rfl Try.func47 (by kernel_rfl) rfl #[.int .u32 a1] rfl (by (try simp only [List.map_toArray, List.map_cons, List.map_nil]); first | done | rfl | (simp only [List.length_drop, List.length_take]; rfl)) ?_; (with_reducible refine (lathelaw02_n.calls a1 t135 _ A6.out).mono ?_); rintro e w' ⟨rfl, ⟨nd, rfl⟩⟩; refine ⟨_, rfl, ?_⟩) | ((with_reducible refine gate_callee (f := 49) rfl ?_); refine goesL_ (some 13) rfl rfl Try.func49 (by kernel_rfl) rfl #[.int .i64 t134, .int .i64 t135] rfl (by (try simp only [List.map_toArray, List.map_cons, List.map_nil]); first | done | rfl | (simp only [List.length_drop, List.length_take]; rfl)) ?_; (with_reducible refine (latheref02_Mul.calls k t134 t135 t136 _ A7.out).mono ?_); rintro e w10 ⟨rfl, hb⟩; refine ⟨_, rfl, ?_⟩; have n0_ := Aside0.mk (below_step (by repeat (first | (with_reducible first | exact HB.out | apply below_alloc | apply pw_below_drewN | apply below_drew1) | exact HB.out)) hb); clear HB; have HB := n0_; clear n0_; (try clear hb); (try clear hb2); (try clear hk); (try clear hi)) | (go_at_call 50; (with_reducible refine (lathelaw02_works.calls  t137 _ A9.out).mono ?_); clear A9; rintro e w' ⟨rfl, ⟨nd, rfl⟩⟩))
    go_ret
    exact ⟨by first | rfl | (simp [errW_none, errW_some] <;> rfl) | (simp [*, errW_none, errW_some] <;> rfl), by repeat (first | (with_reducible first | exact HB.out | apply below_alloc | apply pw_below_drewN | apply below_drew1) | exact HB.out)⟩
  · rw [if_neg c8] at H
    have c8b0 : (t133 == t136) = false := beq_eq_false_iff_ne.mpr c8
    have c8b1 : (t133 != t136) = true := bne_iff_ne.mpr c8
    obtain rfl := Option.some.inj H
    go_enter Try.func9, Try.ntmps9
    go_wp2_with (first | ((with_reducible refine gate_callee (f := 48) rfl ?_); refine goesL_ (some 7) rfl rfl Try.func48 (by kernel_rfl) rfl #[.int .u32 a0, .int .u32 a1] rfl (by (try simp only [List.map_toArray, List.map_cons, List.map_nil]); first | done | rfl | (simp only [List.length_drop, List.length_take]; rfl)) ?_; (with_reducible refine (float_Mul.calls a0 a1 t132 _ A3.out).mono ?_); rintro e w' ⟨rfl, ⟨nd, rfl⟩⟩; refine ⟨_, rfl, ?_⟩) | ((with_reducible refine gate_callee (f := 47) rfl ?_); refine goesL_ (some 8) rfl rfl Try.func47 (by kernel_rfl) rfl #[.int .u32 t132] rfl (by (try simp only [List.map_toArray, List.map_cons, List.map_nil]); first | done | rfl | (simp only [List.length_drop, List.length_take]; rfl)) ?_; (with_reducible refine (lathelaw02_n.calls t132 t133 _ A4.out).mono ?_); rintro e w' ⟨rfl, ⟨nd, rfl⟩⟩; refine ⟨_, rfl, ?_⟩) | ((with_reducible refine gate_callee (f := 47) rfl ?_); refine goesL_ (some 10) rfl rfl Try.func47 (by kernel_rfl) rfl #[.int .u32 a0] rfl (by (try simp only [List.map_toArray, List.map_cons, List.map_nil]); first | done | rfl | (simp only [List.length_drop, List.length_take]; rfl)) ?_; (with_reducible refine (lathelaw02_n.calls a0 t134 _ A5.out).mono ?_); rintro e w' ⟨rfl, ⟨nd, rfl⟩⟩; refine ⟨_, rfl, ?_⟩) | ((with_reducible refine gate_callee (f := 47) rfl ?_); refine goesL_ (some 12) rfl rfl Try.func47 (by kernel_rfl) rfl #[.int .u32 a1] rfl (by (try simp only [List.map_toArray, List.map_cons, List.map_nil]); first | done | rfl | (simp only [List.length_drop, List.length_take]; rfl)) ?_; (with_reducible refine (lathelaw02_n.calls a1 t135 _ A6.out).mono ?_); rintro e w' ⟨rfl, ⟨nd, rfl⟩⟩; refine ⟨_, rfl, ?_⟩) | ((with_reducible refine gate_callee (f := 49) rfl ?_); refine goesL_ (some 13) rfl rfl Try.func49 (by kernel_rfl) rfl #[.int .i64 t134, .int .i64 t135] rfl (by (try simp only [List.map_toArray, List.map_cons, List.map_nil]); first | done | rfl | (simp only [List.length_drop, List.length_take]; rfl)) ?_; (with_reducible refine (latheref02_Mul.calls k t134 t135 t136 _ A7.out).mono ?_); rintro e w11 ⟨rfl, hb⟩; refine ⟨_, rfl, ?_⟩; have n0_ := Aside0.mk (below_step (by repeat (first | (with_reducible first | exact HB.out | apply below_alloc | apply pw_below_drewN | apply below_drew1) | exact HB.out)) hb); clear HB; have HB := n0_; clear n0_; (try clear hb); (try clear hb2); (try clear hk); (try clear hi)))
    go_ret
    exact ⟨by first | rfl | (simp [errW_none, errW_some] <;> rfl) | (simp [*, errW_none, errW_some] <;> rfl), by repeat (first | (with_reducible first | exact HB.out | apply below_alloc | apply pw_below_drewN | apply below_drew1) | exact HB.out)⟩

/-- THE ONE PURE STATEMENT of lathelaw02_FloatMuls: yours. -/
def lathelaw02_FloatMuls.Pure : Prop := ∀ (a0 : Int) (a1 : Int), (Lit.int .u32 a0).wf = true → (Lit.int .u32 a1).wf = true → ∃ k, lathelaw02_FloatMuls.f k a0 a1 = some true
theorem lathelaw02_FloatMuls.walk (P : lathelaw02_FloatMuls.Pure) (a0 : Int) (a1 : Int) (w : World) (w0 : (Lit.int .u32 a0).wf = true) (w1 : (Lit.int .u32 a1).wf = true) :
    Calls Try.prog 9 #[.int .u32 a0, .int .u32 a1] w fun e w' => e = .returned (.bool true) ∧ Below w.heap.size w w' := by
  obtain ⟨k, h⟩ := P a0 a1 w0 w1
  refine (lathelaw02_FloatMuls.calls k a0 a1 true w h).mono ?_
  rintro e w' ⟨rfl, hd⟩
  exact ⟨rfl, hd⟩

end Go.Proofs.Ytcegmbplgghjnaa.PF
