/- The functions of the program that a statement reaches, as plain functions, and that the machine's calls do what these say. No condition. (Printed by a program.) -/
import Derived.Test.YtmfladkimmnccaaPGx0
namespace Go.Proofs.Ytmfladkimmnccaa.PG
open Go.RowKit Go.Proofs.YtmfladkimmnccaaW.PrintWords Go.Proofs.YtmfladkimmnccaaW.PrintLast Go.Proofs.YtmfladkimmnccaaW.PrintMore
attribute [local go_sem] max2_int min2_int max_two min_two max_three min_three max_four min_four   -- for this text's walks alone
set_option linter.unusedVariables false
set_option linter.unusedSimpArgs false

/-! ### lathelaw05_twin: function 41 -/
def lathelaw05_twin.f (l0 : List Int) : Option (List Int) := if ([] : List Int).length + l0.length < 35184372088832 then (some (([] : List Int) ++ l0)) else (none)
set_option maxHeartbeats 8000000 in
set_option maxRecDepth 100000 in
theorem lathelaw05_twin.calls (A0 : Option Addr) (c0 : Nat) (l0 : List Int) (r : List Int) (w : World) (hr0 : Kd.C (Kd.int .u32) w A0 l0.length l0) (hc0 : l0.length ≤ c0) (h : lathelaw05_twin.f l0 = some r) :
    Calls Try.prog 41 #[.slice A0 l0.length c0] w fun e w' => ∃ v0_ : Value, e = .returned (v0_) ∧ Kd.R (Kd.int .u32) 52 w' w.heap.size (fun _ => True) v0_ r ∧ Below w.heap.size w w' := by
  have HR0 := Aside0.mk hr0
  have HC0 := Aside0.mk hc0
  clear hr0 hc0
  have HB := Aside0.mk (Below.refl w.heap.size w)
  have H : (if ([] : List Int).length + l0.length < 35184372088832 then (some (([] : List Int) ++ l0)) else (none)) = some r := h
  clear h
  by_cases c2 : ([] : List Int).length + l0.length < 35184372088832
  · rw [if_pos c2] at H
    have LMc2 := Aside0.mk c2
    clear c2
    obtain ⟨y101, hy101⟩ : ∃ y_ : List Int, y_ = (([] : List Int) ++ l0) := ⟨_, rfl⟩
    replace H : (some y101) = some r := by first | (rw [hy101]; with_reducible exact H) | (have H2_ := (Option.bind_some _ _).symm.trans H; rw [hy101]; with_reducible exact H2_) | (have H2_ := (Option.bind_some _ _).symm.trans H; with_reducible exact H2_) | with_reducible exact H | (rw [hy101]; exact H) | exact H
    have Ny101 := Aside0.mk hy101
    clear hy101
    obtain rfl := Option.some.inj H
    go_enter Try.func41, Try.ntmps41
    go_wp2_with (first | ((with_reducible refine gate_builtin (b := .append) (xs := #[.tmp 4, .tmp 5]) rfl ?_); at_builtin; refine Kd.R_append_rows (Kd.int .u32) (w0 := w) w.heap.size rfl (.tmp 4) (.tmp 5) 40 52 (.int .u32 0) 4 rfl Try.underlying40 info52 rfl (by decide) (by omega) (.slice none 0 0) ([] : List Int) l0 _ _ _ (fun _ => True) (fun _ => False) rfl rfl ?aO ?aR (fun _ _ h => h) (fun _ h => h.elim) ?aF ?aB ?aS ?aL ?_; (case aR => repeat (first | exact HR0.out | (with_reducible refine Kd.C_alloc ?_ _) | (with_reducible refine Kd.C_drewN ?_ _) | (with_reducible refine Kd.C_drew ?_))); (case aB => exact (by repeat (first | (with_reducible first | exact HB.out | apply below_alloc | apply pw_below_drewN | apply below_drew1) | exact HB.out))); (case aF => exact (fun _ _ => trivial)); (case aO => exact ((Kd.R_nil _ _ _ _ (fun _ => True)))); (case aS => exact (below_size (by repeat (first | (with_reducible first | exact HB.out | apply below_alloc | apply pw_below_drewN | apply below_drew1) | exact HB.out)))); (case aL => have := LMc2.out; omega); intro v102 w3 ho hb hg hat; rw [← Ny101.out] at ho; have n0_ := Aside0.mk (hb); have n1_ := Aside0.mk (ho); clear HB; have HB := n0_; have HO103 := n1_; clear n0_ n1_; clear ho hb hg hat))
    go_ret
    exact ⟨_, by first | rfl | (simp [errW_none, errW_some] <;> rfl) | (simp [*, errW_none, errW_some] <;> rfl), by (with_reducible repeat (first | apply Kd.R_alloc | apply Kd.R_drewN | apply Kd.R_drew)); exact HO103.out, by repeat (first | (with_reducible first | exact HB.out | apply below_alloc | apply pw_below_drewN | apply below_drew1) | exact HB.out)⟩
  · rw [if_neg c2] at H
    exact absurd H (by simp)

/-! ### lathelaw05_twins: function 23 -/
def lathelaw05_twins.l0 : Nat → List (List Int) → List (List Int) → Int → Option ((List (List Int)))
  | 0, _, _, _ => none
  | k + 1, x0, x3, x4 => if x4 < (x0.length : Int) then (if 0 ≤ x4 then ((lathelaw05_twin.f (rd_L1 x0 x4)).bind fun t105 => (if x3.length < 5864062014805 then (lathelaw05_twins.l0 k x0 (x3 ++ [t105]) (wrap64 (x4 + 1))) else (none))) else (none)) else (some x3)
def lathelaw05_twins.f (k : Nat) (l0 : List (List Int)) : Option ((List (List Int))) := lathelaw05_twins.l0 k l0 ([] : List (List Int)) 0
theorem lathelaw05_twins.mono_l : ∀ k, (∀ y0 y1 y2, LeO (lathelaw05_twins.l0 k y0 y1 y2) (lathelaw05_twins.l0 (k + 1) y0 y1 y2))
  | 0 => fun _ _ _ r h => by simp [lathelaw05_twins.l0] at h
  | k + 1 => by
    have ih0 := lathelaw05_twins.mono_l k
    · intro y0 y1 y2
      unfold lathelaw05_twins.l0
      repeat' first
      | (with_reducible exact ih0 _ _ _)
      | (with_reducible exact LeO.refl _)
      | (with_reducible exact LeO.none _)
      | (with_reducible refine LeO.ite ?_ ?_)
      | (with_reducible refine LeO.bind ?_ (fun _ => ?_))
      | exact ih0 _ _ _
      | exact LeO.none _
      | refine LeO.ite ?_ ?_
      | refine LeO.bind ?_ (fun _ => ?_)
theorem lathelaw05_twins.mono : ∀ a0 k, LeO (lathelaw05_twins.f k a0) (lathelaw05_twins.f (k + 1) a0) := by
  intro a0 k
  have ih0 := lathelaw05_twins.mono_l k
  unfold lathelaw05_twins.f
  repeat' first
      | (with_reducible exact ih0 _ _ _)
      | (with_reducible exact LeO.refl _)
      | (with_reducible exact LeO.none _)
      | (with_reducible refine LeO.ite ?_ ?_)
      | (with_reducible refine LeO.bind ?_ (fun _ => ?_))
      | exact ih0 _ _ _
      | exact LeO.none _
      | refine LeO.ite ?_ ?_
      | refine LeO.bind ?_ (fun _ => ?_)
set_option maxHeartbeats 8000000 in
set_option maxRecDepth 100000 in
theorem lathelaw05_twins.calls (k : Nat) (A0 : Option Addr) (c0 : Nat) (l0 : List (List Int)) (r : List (List Int)) (w : World) (hr0 : Kd.C (Kd.slice 52 (Kd.int .u32)) w A0 l0.length l0) (hc0 : l0.length ≤ c0) (h : lathelaw05_twins.f k l0 = some r) :
    Calls Try.prog 23 #[.slice A0 l0.length c0] w fun e w' => ∃ v0_ : Value, e = .returned (v0_) ∧ Kd.S (Kd.slice 52 (Kd.int .u32)) 40 w' w.heap.size (fun _ => True) v0_ r ∧ Below w.heap.size w w' := by
  have HR0 := Aside0.mk hr0
  have HC0 := Aside0.mk hc0
  clear hr0 hc0
  have HB := Aside0.mk (Below.refl w.heap.size w)
  have H : (lathelaw05_twins.l0 k l0 ([] : List (List Int)) 0) = some r := h
  clear h
  have H' := Aside0.mk H
  clear H
  go_enter Try.func23, Try.ntmps23
  go_wp2
  go_loopg [3, 4] k (fun kq v3 v4 w' => ∃ (x3_1 : List (List Int)) (x4_1 : Int), v4 = .int .i64 x4_1 ∧ Aside0 (lathelaw05_twins.l0 kq l0 x3_1 x4_1 = some r) ∧ Aside0 (kq ≤ k) ∧ Aside0 (Kd.S (Kd.slice 52 (Kd.int .u32)) 40 w' w.heap.size (fun _ => True) v3 x3_1) ∧ Aside0 (Below w.heap.size w w'))
  case atStart => exact ⟨(([] : List (List Int))), (0), (by first | rfl | (simp; done) | (simp [*]; done)), H', ⟨Nat.le_refl _⟩, ⟨by first | exact Kd.S_nil _ _ _ _ _ | exact Kd.N_nil _ _ _ _ _ | exact Kd.V_nil _ _ _ _ _ | exact Kd.Q_nil _ _ _ _ _ | exact Kd.R_nil _ _ _ _ _⟩, ⟨by repeat (first | (with_reducible first | exact HB.out | apply below_alloc | apply pw_below_drewN | apply below_drew1) | exact HB.out)⟩⟩
  case round =>
    clear H'
    obtain ⟨x3_1, x4_1, rfl, HA, HK1, HO_3, HB⟩ := hrel
    cases gk with
    | zero => exact absurd HA.out (by simp [lathelaw05_twins.l0])
    | succ k1 =>
      have H := HA.out
      clear HA
      simp only [lathelaw05_twins.l0] at H
      by_cases c2 : x4_1 < (l0.length : Int)
      · rw [if_pos c2] at H
        have c2b0 : decide (x4_1 < (l0.length : Int)) = true := decide_eq_true c2
        clear c2
        by_cases c3 : 0 ≤ x4_1
        · rw [if_pos c3] at H
          have c3b0 : decide (0 ≤ x4_1) = true := decide_eq_true c3
          clear c3
          replace H := Option.bind_eq_some_iff.mp H
          obtain ⟨t105, A40, H⟩ := H
          replace H : (if x3_1.length < 5864062014805 then (lathelaw05_twins.l0 k1 l0 (x3_1 ++ [t105]) (wrap64 (x4_1 + 1))) else (none)) = some r := H
          have A4 := Aside0.mk A40
          clear A40
          by_cases c5 : x3_1.length < 5864062014805
          · rw [if_pos c5] at H
            have LMc5 := Aside0.mk c5
            clear c5
            obtain ⟨y108, hy108⟩ : ∃ y_ : List (List Int), y_ = (x3_1 ++ [t105]) := ⟨_, rfl⟩
            replace H : (lathelaw05_twins.l0 k1 l0 y108 (wrap64 (x4_1 + 1))) = some r := by first | (rw [hy108]; with_reducible exact H) | (have H2_ := (Option.bind_some _ _).symm.trans H; rw [hy108]; with_reducible exact H2_) | (have H2_ := (Option.bind_some _ _).symm.trans H; with_reducible exact H2_) | with_reducible exact H | (rw [hy108]; exact H) | exact H
            have Ny108 := Aside0.mk hy108
            clear hy108
            have H' := Aside0.mk H
            clear H
            have p104 : 0 ≤ (x4_1 : Int) := of_decide_eq_true (by first | (with_reducible assumption) | assumption)
            have q104 : x4_1 < (l0.length : Int) := of_decide_eq_true (by first | (with_reducible assumption) | assumption)
            obtain ⟨ad104, A104_0, c104_0, e104, hx104_0, hl104_0, hi104_0⟩ := at_L1 HR0.out x4_1 p104 q104
            cases e104
            replace hx104_0 := (HB.out.cell (World.block_lt_of_cell? w _ hx104_0)).trans hx104_0
            have HR104_0 := Aside0.mk hi104_0
            have HC104_0 := Aside0.mk hl104_0
            clear hi104_0 hl104_0
            replace p104 := eq_true p104
            replace q104 := eq_true q104
            go_wp2_with (first | ((with_reducible refine gate_callee (f := 41) rfl ?_); refine goesL_ (some 16) rfl rfl Try.func41 (by kernel_rfl) rfl #[.slice A104_0 (rd_L1 l0 x4_1).length c104_0] rfl (by (try simp only [List.map_toArray, List.map_cons, List.map_nil]); first | done | rfl | (simp only [List.length_drop, List.length_take]; rfl)) ?_; (with_reducible refine (lathelaw05_twin.calls _ _ (rd_L1 l0 x4_1) t105 _ ?side1 ?side2 A4.out).mono ?_); (case side1 => repeat (first | exact (Kd.C_below HR104_0.out HB.out) | (with_reducible refine Kd.C_alloc ?_ _) | (with_reducible refine Kd.C_drewN ?_ _) | (with_reducible refine Kd.C_drew ?_))); (case side2 => exact HC104_0.out); clear A4; rintro e w6 ⟨v106, rfl, ho0, hb⟩; refine ⟨_, rfl, ?_⟩; have n0_ := Aside0.mk (Kd.S_elder' (by (with_reducible repeat (first | apply Kd.S_alloc | apply Kd.S_drewN | apply Kd.S_drew)); exact HO_3.out) (Kd.R_base ho0) hb); have n1_ := Aside0.mk (Kd.R_lower ho0 (below_size (by repeat (first | (with_reducible first | exact HB.out | apply below_alloc | apply pw_below_drewN | apply below_drew1) | exact HB.out)))); have n2_ := Aside0.mk (below_step (by repeat (first | (with_reducible first | exact HB.out | apply below_alloc | apply pw_below_drewN | apply below_drew1) | exact HB.out)) hb); clear HO_3; clear HB; have HO_3 := n0_; have HO107 := n1_; have HB := n2_; clear n0_ n1_ n2_; (try clear hb); (try clear hb2); (try clear hk); (try clear hi); (try clear ho0); obtain ⟨Ao8, co8, eo8⟩ := Kd.R_slice HO107.out; subst eo8) | ((with_reducible refine gate_builtin (b := .append) (xs := #[.tmp 11, .tmp 17]) rfl ?_); at_builtin; refine Kd.S_append (Kd.slice 52 (Kd.int .u32)) (w0 := w) w.heap.size rfl (.tmp 11) (.tmp 17) 38 40 (.slice none 0 0) 24 rfl Try.underlying38 info40 rfl (by decide) (by omega) u3 x3_1 t105 [.slice Ao8 t105.length co8] (fun _ => True) (fun k_ => some k_ = (.slice Ao8 t105.length co8 : Value).ownBlock) rfl rfl ?aP (fun k_ hk_ => ((Kd.R_mono (ok' := fun k_ => ((fun _ => True)) k_ ∧ some k_ ≠ (u3 : Value).ownBlock) (Kd.R_apart' (HO107.out) (Kd.S_typed HO_3.out) (by decide)) (fun k_ hk => ⟨trivial, hk.2⟩))).1 k_ hk_.symm) ?aF ?aO ?aB ?aS ?aL ?_; (case aP => exact Kd.M_row (Kd.R_mono (Kd.R_tight rfl (Kd.R_mono (ok' := fun k_ => ((fun _ => True)) k_ ∧ some k_ ≠ (u3 : Value).ownBlock) (Kd.R_apart' (HO107.out) (Kd.S_typed HO_3.out) (by decide)) (fun k_ hk => ⟨trivial, hk.2⟩))) (fun _ h_ => h_))); (case aB => exact (by repeat (first | (with_reducible first | exact HB.out | apply below_alloc | apply pw_below_drewN | apply below_drew1) | exact HB.out))); (case aF => exact (fun _ _ => trivial)); (case aO => exact (by (with_reducible repeat (first | apply Kd.S_alloc | apply Kd.S_drewN | apply Kd.S_drew)); exact Kd.S_mono HO_3.out (fun k_ hk => ⟨trivial, fun e_ => hk.2 e_⟩))); (case aS => exact (below_size (by repeat (first | (with_reducible first | exact HB.out | apply below_alloc | apply pw_below_drewN | apply below_drew1) | exact HB.out)))); (case aL => have := LMc5.out; omega); intro v109 w7 ho hb hg hat; rw [← Ny108.out] at ho; have n0_ := Aside0.mk (hb); have n1_ := Aside0.mk (ho); clear HB; clear HO_3; clear HO107; have HB := n0_; have HO110 := n1_; clear n0_ n1_; clear ho hb hg hat))
            go_roundg k1
            case measure => have := HK1.out; omega
            case rel => exact ⟨(y108), (wrap64 (x4_1 + 1)), (by first | rfl | (simp; done) | (simp [*]; done)), H', ⟨by have := HK1.out; omega⟩, ⟨by (with_reducible repeat (first | apply Kd.S_alloc | apply Kd.S_drewN | apply Kd.S_drew)); exact HO110.out⟩, ⟨by repeat (first | (with_reducible first | exact HB.out | apply below_alloc | apply pw_below_drewN | apply below_drew1) | exact HB.out)⟩⟩
          · rw [if_neg c5] at H
            exact absurd H (by simp)
        · rw [if_neg c3] at H
          exact absurd H (by simp)
      · rw [if_neg c2] at H
        have c2b0 : decide (x4_1 < (l0.length : Int)) = false := decide_eq_false c2
        (try (have c2b0h := c2b0; rw [hl104_0] at c2b0h))
        clear c2
        obtain rfl := Option.some.inj H
        go_wp2
        go_ret
        exact ⟨_, by first | rfl | (simp [errW_none, errW_some] <;> rfl) | (simp [*, errW_none, errW_some] <;> rfl), by (with_reducible repeat (first | apply Kd.S_alloc | apply Kd.S_drewN | apply Kd.S_drew)); exact HO_3.out, by repeat (first | (with_reducible first | exact HB.out | apply below_alloc | apply pw_below_drewN | apply below_drew1) | exact HB.out)⟩

-- NOT PRINTED: function 135 (math_Float32bits)

-- NOT PRINTED: function 116 (float_told)

-- NOT PRINTED: function 136 (math_Float32frombits)

-- NOT PRINTED: function 117 (float_of)

/-! ### float_Add: function 70 (given) -/
def float_Add.f (a0 : Int) (a1 : Int) : Option (Int) := some (Lathe.fadd a0.toNat a1.toNat : Nat)
theorem float_Add.calls (a0 : Int) (a1 : Int) (r : Int) (w : World) (h : float_Add.f a0 a1 = some r) :
    Calls Try.prog 70 #[.int .u32 a0, .int .u32 a1] w fun e w' => e = .returned (.int .u32 r) ∧ Drawn0 w w' := by
  have h := Option.some.inj h
  subst h
  exact Flo.Add a0 a1 w


-- NOT PRINTED: function 137 (math_sqrt)

-- NOT PRINTED: function 118 (math_Sqrt)

/-! ### float_Sqrt: function 71 (given) -/
def float_Sqrt.f (a0 : Int) : Option (Int) := some (Lathe.fsqrt a0.toNat : Nat)
theorem float_Sqrt.calls (a0 : Int) (r : Int) (w : World) (h : float_Sqrt.f a0 = some r) :
    Calls Try.prog 71 #[.int .u32 a0] w fun e w' => e = .returned (.int .u32 r) ∧ Drawn0 w w' := by
  have h := Option.some.inj h
  subst h
  exact Flo.Sqrt a0 w


/-! ### float_Mul: function 74 (given) -/
def float_Mul.f (a0 : Int) (a1 : Int) : Option (Int) := some (Lathe.fmul a0.toNat a1.toNat : Nat)
theorem float_Mul.calls (a0 : Int) (a1 : Int) (r : Int) (w : World) (h : float_Mul.f a0 a1 = some r) :
    Calls Try.prog 74 #[.int .u32 a0, .int .u32 a1] w fun e w' => e = .returned (.int .u32 r) ∧ Drawn0 w w' := by
  have h := Option.some.inj h
  subst h
  exact Flo.Mul a0 a1 w


/-! ### float_Div: function 76 (given) -/
def float_Div.f (a0 : Int) (a1 : Int) : Option (Int) := some (Lathe.fdiv a0.toNat a1.toNat : Nat)
theorem float_Div.calls (a0 : Int) (a1 : Int) (r : Int) (w : World) (h : float_Div.f a0 a1 = some r) :
    Calls Try.prog 76 #[.int .u32 a0, .int .u32 a1] w fun e w' => e = .returned (.int .u32 r) ∧ Drawn0 w w' := by
  have h := Option.some.inj h
  subst h
  exact Flo.Div a0 a1 w


/-! ### bits_Parts: function 141 -/
def bits_Parts.f (a0 : Int) : Option (Bool × Int × Int) := some (((Go.bits .and .u32 a0 2147483648) != 0), wrap64 (Go.bits .and .u32 (a0 / 8388608) 255), wrap64 (Go.bits .and .u32 a0 8388607))
set_option maxHeartbeats 8000000 in
set_option maxRecDepth 100000 in
theorem bits_Parts.calls (a0 : Int) (r1 : Bool) (r2 : Int) (r3 : Int) (w : World) (h : bits_Parts.f a0 = some (r1, r2, r3)) :
    Calls Try.prog 141 #[.int .u32 a0] w fun e w' => e = .returned (.tuple #[.bool r1, .int .i64 r2, .int .i64 r3]) ∧ Drawn0 w w' := by
  have H : (some (((Go.bits .and .u32 a0 2147483648) != 0), wrap64 (Go.bits .and .u32 (a0 / 8388608) 255), wrap64 (Go.bits .and .u32 a0 8388607))) = some (r1, r2, r3) := h
  clear h
  simp only [Option.some.injEq, Prod.mk.injEq] at H
  obtain ⟨rfl, rfl, rfl⟩ := H
  go_enter Try.func141, Try.ntmps141
  go_wp2
  go_ret3
  exact ⟨by first | rfl | (simp; done) | (simp [*]; done), by repeat (first | exact Drawn0.refl _ | apply Drawn0.step)⟩

/-! ### bits_Class: function 126 -/
def bits_Class.j0 : Nat → Int → Int → Bool → Option (Int)
  | 0, _, _, _ => none
  | k + 1, x4, x5, x12 => if x12 = true then (some 1) else (if x4 = 0 then (some 2) else (if x4 < 255 then (some 3) else (if x5 = 0 then (some 4) else (some 5))))
def bits_Class.f (k : Nat) (a0 : Int) : Option (Int) := (bits_Parts.f a0).bind fun bt111 => (if bt111.2.1 = 0 then (bits_Class.j0 k bt111.2.1 bt111.2.2 (bt111.2.2 == 0)) else (bits_Class.j0 k bt111.2.1 bt111.2.2 false))
theorem bits_Class.mono_l : ∀ k, (∀ y0 y1 y2, LeO (bits_Class.j0 k y0 y1 y2) (bits_Class.j0 (k + 1) y0 y1 y2))
  | 0 => fun _ _ _ r h => by simp [bits_Class.j0] at h
  | k + 1 => by
    have ih0 := bits_Class.mono_l k
    · intro y0 y1 y2
      unfold bits_Class.j0
      repeat' first
      | (with_reducible exact ih0 _ _ _)
      | (with_reducible exact LeO.refl _)
      | (with_reducible exact LeO.none _)
      | (with_reducible refine LeO.ite ?_ ?_)
      | (with_reducible refine LeO.bind ?_ (fun _ => ?_))
      | exact ih0 _ _ _
      | exact LeO.none _
      | refine LeO.ite ?_ ?_
      | refine LeO.bind ?_ (fun _ => ?_)
theorem bits_Class.mono : ∀ a0 k, LeO (bits_Class.f k a0) (bits_Class.f (k + 1) a0) := by
  intro a0 k
  have ih0 := bits_Class.mono_l k
  unfold bits_Class.f
  repeat' first
      | (with_reducible exact ih0 _ _ _)
      | (with_reducible exact LeO.refl _)
      | (with_reducible exact LeO.none _)
      | (with_reducible refine LeO.ite ?_ ?_)
      | (with_reducible refine LeO.bind ?_ (fun _ => ?_))
      | exact ih0 _ _ _
      | exact LeO.none _
      | refine LeO.ite ?_ ?_
      | refine LeO.bind ?_ (fun _ => ?_)
set_option maxHeartbeats 8000000 in
set_option maxRecDepth 100000 in
theorem bits_Class.calls (k : Nat) (a0 : Int) (r : Int) (w : World) (h : bits_Class.f k a0 = some r) :
    Calls Try.prog 126 #[.int .u32 a0] w fun e w' => e = .returned (.int .i64 r) ∧ Drawn0 w w' := by
  have H : ((bits_Parts.f a0).bind fun bt111 => (if bt111.2.1 = 0 then (bits_Class.j0 k bt111.2.1 bt111.2.2 (bt111.2.2 == 0)) else (bits_Class.j0 k bt111.2.1 bt111.2.2 false))) = some r := h
  clear h
  replace H := Option.bind_eq_some_iff.mp H
  obtain ⟨⟨t111, t112, t113⟩, A20, H⟩ := H
  replace H : (if t112 = 0 then (bits_Class.j0 k t112 t113 (t113 == 0)) else (bits_Class.j0 k t112 t113 false)) = some r := H
  have A2 := Aside0.mk A20
  clear A20
  have HC3 := Aside0.mk H
  clear H
  go_enter Try.func126, Try.ntmps126
  go_upto_region 2 with (first | ((with_reducible refine gate_callee (f := 141) rfl ?_); refine goesL_ (some 8) rfl rfl Try.func141 (by kernel_rfl) rfl #[.int .u32 a0] rfl (by (try simp only [List.map_toArray, List.map_cons, List.map_nil]); first | done | rfl | (simp only [List.length_drop, List.length_take]; rfl)) ?_; (with_reducible refine (bits_Parts.calls a0 t111 t112 t113 _ A2.out).mono ?_); clear A2; rintro e w' ⟨rfl, ⟨nd, rfl⟩⟩; refine ⟨_, rfl, ?_⟩))
  (try simp only [Act.put, List.setIfInBounds_toArray, List.set_cons_zero, List.set_cons_succ])
  go_cut [12] (fun v12 wc => ∃ (kq : Nat) (x12_2 : Bool), v12 = .bool x12_2 ∧ Aside0 (bits_Class.j0 kq t112 t113 x12_2 = some r) ∧ Aside0 (kq ≤ k) ∧ Drawn0 w wc)
  case first =>
    have H := HC3.out
    clear HC3
    by_cases c4 : t112 = 0
    · rw [if_pos c4] at H
      have c4b0 : (t112 == 0) = true := beq_iff_eq.mpr c4
      have c4b1 : (t112 != 0) = false := bne_eq_false_iff_eq.mpr c4
      clear c4
      (first | rw [c4b0] | (simp only [i64_w, i32_w]; rw [c4b0]) | skip)
      have H' := Aside0.mk H
      clear H
      go_wp2
      go_meet
      case rel => exact ⟨_, ((t113 == 0)), (by first | rfl | (simp; done) | (simp [*]; done)), H', ⟨by first | omega | exact Nat.le_refl _⟩, by repeat (first | exact Drawn0.refl _ | apply Drawn0.step)⟩
    · rw [if_neg c4] at H
      have c4b0 : (t112 == 0) = false := beq_eq_false_iff_ne.mpr c4
      have c4b1 : (t112 != 0) = true := bne_iff_ne.mpr c4
      (first | rw [c4b0] | (simp only [i64_w, i32_w]; rw [c4b0]) | skip)
      have H' := Aside0.mk H
      clear H
      go_wp2
      go_meet
      case rel => exact ⟨_, (false), (by first | rfl | (simp; done) | (simp [*]; done)), H', ⟨by first | omega | exact Nat.le_refl _⟩, by repeat (first | exact Drawn0.refl _ | apply Drawn0.step)⟩
  case rest =>
    clear HC3
    try clear c1
    try clear p2
    try clear c4
    try clear c4b0
    try clear c4b1
    obtain ⟨kq, x12_2, rfl, HA, HJ2, ⟨mc2, rfl⟩⟩ := hcut
    cases kq with
    | zero => exact absurd HA.out (by simp [bits_Class.j0])
    | succ kj2 =>
      have H := HA.out
      clear HA
      simp only [bits_Class.j0] at H
      by_cases c5 : x12_2 = true
      · subst c5
        have H1 : (some 1) = some r := by rw [if_pos rfl] at H; exact H
        clear H
        have H := H1
        clear H1
        obtain rfl := Option.some.inj H
        go_wp2
        go_ret
        exact ⟨by first | rfl | (simp; done) | (simp [*]; done), by repeat (first | exact Drawn0.refl _ | apply Drawn0.step)⟩
      · replace c5 := Bool.eq_false_iff.mpr c5
        subst c5
        have H1 : (if t112 = 0 then (some 2) else (if t112 < 255 then (some 3) else (if t113 = 0 then (some 4) else (some 5)))) = some r := by rw [if_neg (show ¬ (false = true) by decide)] at H; exact H
        clear H
        have H := H1
        clear H1
        by_cases c6 : t112 = 0
        · rw [if_pos c6] at H
          have c6b0 : (t112 == 0) = true := beq_iff_eq.mpr c6
          have c6b1 : (t112 != 0) = false := bne_eq_false_iff_eq.mpr c6
          clear c6
          obtain rfl := Option.some.inj H
          go_wp2
          go_ret
          exact ⟨by first | rfl | (simp; done) | (simp [*]; done), by repeat (first | exact Drawn0.refl _ | apply Drawn0.step)⟩
        · rw [if_neg c6] at H
          have c6b0 : (t112 == 0) = false := beq_eq_false_iff_ne.mpr c6
          have c6b1 : (t112 != 0) = true := bne_iff_ne.mpr c6
          by_cases c7 : t112 < 255
          · rw [if_pos c7] at H
            have c7b0 : decide (t112 < 255) = true := decide_eq_true c7
            clear c7
            obtain rfl := Option.some.inj H
            go_wp2
            go_ret
            exact ⟨by first | rfl | (simp; done) | (simp [*]; done), by repeat (first | exact Drawn0.refl _ | apply Drawn0.step)⟩
          · rw [if_neg c7] at H
            have c7b0 : decide (t112 < 255) = false := decide_eq_false c7
            clear c7
            by_cases c8 : t113 = 0
            · rw [if_pos c8] at H
              have c8b0 : (t113 == 0) = true := beq_iff_eq.mpr c8
              have c8b1 : (t113 != 0) = false := bne_eq_false_iff_eq.mpr c8
              clear c8
              obtain rfl := Option.some.inj H
              go_wp2
              go_ret
              exact ⟨by first | rfl | (simp; done) | (simp [*]; done), by repeat (first | exact Drawn0.refl _ | apply Drawn0.step)⟩
            · rw [if_neg c8] at H
              have c8b0 : (t113 == 0) = false := beq_eq_false_iff_ne.mpr c8
              have c8b1 : (t113 != 0) = true := bne_iff_ne.mpr c8
              obtain rfl := Option.some.inj H
              go_wp2
              go_ret
              exact ⟨by first | rfl | (simp; done) | (simp [*]; done), by repeat (first | exact Drawn0.refl _ | apply Drawn0.step)⟩

/-! ### bits_Canon: function 80 -/
def bits_Canon.f (k : Nat) (a0 : Int) : Option (Int) := (bits_Class.f k a0).bind fun t114 => (if t114 = 5 then (some 2143289344) else (some a0))
theorem bits_Canon.mono : ∀ a0 k, LeO (bits_Canon.f k a0) (bits_Canon.f (k + 1) a0) := by
  intro a0 k
  unfold bits_Canon.f
  repeat' first
      | (with_reducible exact bits_Class.mono _ _)
      | (with_reducible exact LeO.refl _)
      | (with_reducible exact LeO.none _)
      | (with_reducible refine LeO.ite ?_ ?_)
      | (with_reducible refine LeO.bind ?_ (fun _ => ?_))
      | exact bits_Class.mono _ _
      | exact LeO.none _
      | refine LeO.ite ?_ ?_
      | refine LeO.bind ?_ (fun _ => ?_)
set_option maxHeartbeats 8000000 in
set_option maxRecDepth 100000 in
theorem bits_Canon.calls (k : Nat) (a0 : Int) (r : Int) (w : World) (h : bits_Canon.f k a0 = some r) :
    Calls Try.prog 80 #[.int .u32 a0] w fun e w' => e = .returned (.int .u32 r) ∧ Drawn0 w w' := by
  have H : ((bits_Class.f k a0).bind fun t114 => (if t114 = 5 then (some 2143289344) else (some a0))) = some r := h
  clear h
  replace H := Option.bind_eq_some_iff.mp H
  obtain ⟨t114, A20, H⟩ := H
  replace H : (if t114 = 5 then (some 2143289344) else (some a0)) = some r := H
  have A2 := Aside0.mk A20
  clear A20
  by_cases c3 : t114 = 5
  · rw [if_pos c3] at H
    have c3b0 : (t114 == 5) = true := beq_iff_eq.mpr c3
    have c3b1 : (t114 != 5) = false := bne_eq_false_iff_eq.mpr c3
    clear c3
    obtain rfl := Option.some.inj H
    go_enter Try.func80, Try.ntmps80
    go_wp2_with (first | ((with_reducible refine gate_callee (f := 126) rfl ?_); refine goesL_ (some 4) rfl rfl Try.func126 (by kernel_rfl) rfl #[.int .u32 a0] rfl (by (try simp only [List.map_toArray, List.map_cons, List.map_nil]); first | done | rfl | (simp only [List.length_drop, List.length_take]; rfl)) ?_; (with_reducible refine (bits_Class.calls k a0 t114 _ A2.out).mono ?_); clear A2; rintro e w' ⟨rfl, ⟨nd, rfl⟩⟩; refine ⟨_, rfl, ?_⟩))
    go_ret
    exact ⟨by first | rfl | (simp; done) | (simp [*]; done), by repeat (first | exact Drawn0.refl _ | apply Drawn0.step)⟩
  · rw [if_neg c3] at H
    have c3b0 : (t114 == 5) = false := beq_eq_false_iff_ne.mpr c3
    have c3b1 : (t114 != 5) = true := bne_iff_ne.mpr c3
    obtain rfl := Option.some.inj H
    go_enter Try.func80, Try.ntmps80
    go_wp2_with (first | ((with_reducible refine gate_callee (f := 126) rfl ?_); refine goesL_ (some 4) rfl rfl Try.func126 (by kernel_rfl) rfl #[.int .u32 a0] rfl (by (try simp only [List.map_toArray, List.map_cons, List.map_nil]); first | done | rfl | (simp only [List.length_drop, List.length_take]; rfl)) ?_; (with_reducible refine (bits_Class.calls k a0 t114 _ A2.out).mono ?_); clear A2; rintro e w' ⟨rfl, ⟨nd, rfl⟩⟩; refine ⟨_, rfl, ?_⟩))
    go_ret
    exact ⟨by first | rfl | (simp; done) | (simp [*]; done), by repeat (first | exact Drawn0.refl _ | apply Drawn0.step)⟩

/-! ### float_Min: function 82 (given) -/
def float_Min.f (a0 : Int) (a1 : Int) : Option (Int) := some (Lathe.fmin a0.toNat a1.toNat : Nat)
theorem float_Min.calls (a0 : Int) (a1 : Int) (r : Int) (w : World) (h : float_Min.f a0 a1 = some r) :
    Calls Try.prog 82 #[.int .u32 a0, .int .u32 a1] w fun e w' => e = .returned (.int .u32 r) ∧ Drawn0 w w' := by
  have h := Option.some.inj h
  subst h
  exact Flo.Min a0 a1 w


/-! ### float_Max: function 84 (given) -/
def float_Max.f (a0 : Int) (a1 : Int) : Option (Int) := some (Lathe.fmax a0.toNat a1.toNat : Nat)
theorem float_Max.calls (a0 : Int) (a1 : Int) (r : Int) (w : World) (h : float_Max.f a0 a1 = some r) :
    Calls Try.prog 84 #[.int .u32 a0, .int .u32 a1] w fun e w' => e = .returned (.int .u32 r) ∧ Drawn0 w w' := by
  have h := Option.some.inj h
  subst h
  exact Flo.Max a0 a1 w


/-! ### float_Neg: function 101 (given) -/
def float_Neg.f (a0 : Int) : Option (Int) := some (Lathe.fneg a0.toNat : Nat)
theorem float_Neg.calls (a0 : Int) (r : Int) (w : World) (h : float_Neg.f a0 = some r) :
    Calls Try.prog 101 #[.int .u32 a0] w fun e w' => e = .returned (.int .u32 r) ∧ Drawn0 w w' := by
  have h := Option.some.inj h
  subst h
  exact (Flo.Neg a0 w).mono fun e w' h => ⟨h.1, h.2 ▸ Drawn0.refl _⟩


/-! ### float_Abs: function 102 (given) -/
def float_Abs.f (a0 : Int) : Option (Int) := some (Lathe.tl (Go.bits .andNot .u32 a0 2147483648).toNat : Nat)
theorem float_Abs.calls (a0 : Int) (r : Int) (w : World) (h : float_Abs.f a0 = some r) :
    Calls Try.prog 102 #[.int .u32 a0] w fun e w' => e = .returned (.int .u32 r) ∧ Drawn0 w w' := by
  have h := Option.some.inj h
  subst h
  exact (Flo.Abs a0 w).mono fun e w' h => ⟨h.1, h.2 ▸ Drawn0.refl _⟩


/-! ### float_Sub: function 105 (given) -/
def float_Sub.f (a0 : Int) (a1 : Int) : Option (Int) := some (Lathe.fsub a0.toNat a1.toNat : Nat)
theorem float_Sub.calls (a0 : Int) (a1 : Int) (r : Int) (w : World) (h : float_Sub.f a0 a1 = some r) :
    Calls Try.prog 105 #[.int .u32 a0, .int .u32 a1] w fun e w' => e = .returned (.int .u32 r) ∧ Drawn0 w w' := by
  have h := Option.some.inj h
  subst h
  exact Flo.Sub a0 a1 w


-- NOT PRINTED: function 66 (vector_kernel)

/-! ### vector_Apply: function 24 (given) -/
def vector_Apply.f (a0 : Int) (l1 : List (List Int)) : Option (List Int × Int) := Apl.apF a0 l1
theorem vector_Apply.calls (a0 : Int) (A1 : Option Addr) (c1 : Nat) (l1 : List (List Int)) (r1 : List Int) (r2 : Int) (w : World) (hr1 : Kd.C (Kd.slice 52 (Kd.int .u32)) w A1 l1.length l1) (hc1 : l1.length ≤ c1) (h : vector_Apply.f a0 l1 = some (r1, r2)) :
    Calls Try.prog 24 #[.int .i64 a0, .slice A1 l1.length c1] w fun e w' => ∃ v0_ : Value, e = .returned (.tuple #[v0_, .int .i64 r2]) ∧ Kd.R (Kd.int .u32) 52 w' w.heap.size (fun _ => True) v0_ r1 ∧ Below w.heap.size w w' := Apl.Apply_any a0 A1 c1 l1 r1 r2 w hr1 hc1 h


end Go.Proofs.Ytmfladkimmnccaa.PG
