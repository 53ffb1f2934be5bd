/- The functions of the program that a statement reaches, as plain functions, and that the machine's calls do what these say. No condition. (Printed by a program.) -/
import Derived.Test.YtmfladkimmnccaaDoorPWx0
import Derived.Test.YtmfladkimmnccaaDoorWal
namespace Go.Proofs.YtmfladkimmnccaaDoor.PW
open Go.RowKit Go.Proofs.YtmfladkimmnccaaDoorW.PrintWords Go.Proofs.YtmfladkimmnccaaDoorW.PrintLast Go.Proofs.YtmfladkimmnccaaDoorW.PrintMore Go.Proofs.YtmfladkimmnccaaDoor.Sht
attribute [local go_sem] max2_int min2_int max_two min_two max_three min_three max_four min_four   -- for this text's walks alone
set_option linter.unusedVariables false
set_option linter.unusedSimpArgs false

/-! ### sched_counts: function 33 -/
mutual
def sched_counts.l0 : Nat → Int → Int → List (S26) → Int → Int → Option (Int × Int)
  | 0, _, _, _, _, _ => none
  | k + 1, x4, x5, x11, x12, x13 => if x13 < x12 then (if 0 ≤ x13 then (if x13 < (x11.length : Int) then ((sched_counts.f k ((rd_T26 x11 x13).f0) ((rd_T26 x11 x13).f1) ((rd_T26 x11 x13).f2) ((rd_T26 x11 x13).f3)).bind fun bt104 => (sched_counts.l0 k (mx x4 bt104.1) (wrap64 (x5 + bt104.2)) x11 x12 (wrap64 (x13 + 1)))) else (none)) else (none)) else (some (wrap64 (x4 + 1), x5))
def sched_counts.f : Nat → Int → List Int → List Int → List (S26) → Option (Int × Int)
  | 0, _, _, _, _ => none
  | k + 1, a0_0, l0_1, l0_2, l0_3 => sched_counts.l0 k 0 1 l0_3 (l0_3.length : Int) 0
end
theorem sched_counts.mono_l : ∀ k, (∀ y0 y1 y2 y3, LeO (sched_counts.f k y0 y1 y2 y3) (sched_counts.f (k + 1) y0 y1 y2 y3)) ∧ (∀ y0 y1 y2 y3 y4, LeO (sched_counts.l0 k y0 y1 y2 y3 y4) (sched_counts.l0 (k + 1) y0 y1 y2 y3 y4))
  | 0 => ⟨fun _ _ _ _ r h => by simp [sched_counts.f] at h, fun _ _ _ _ _ r h => by simp [sched_counts.l0] at h⟩
  | k + 1 => by
    obtain ⟨ih0, ih1⟩ := sched_counts.mono_l k
    refine ⟨?_, ?_⟩
    · intro y0 y1 y2 y3
      unfold sched_counts.f
      repeat' with_reducible first
       | exact ih0 _ _ _ _
       | exact ih1 _ _ _ _ _
       | exact LeO.refl _
       | exact LeO.none _
       | refine LeO.ite ?_ ?_
       | refine LeO.bind ?_ (fun _ => ?_)
    · intro y0 y1 y2 y3 y4
      unfold sched_counts.l0
      repeat' with_reducible first
       | exact ih0 _ _ _ _
       | exact ih1 _ _ _ _ _
       | exact LeO.refl _
       | exact LeO.none _
       | refine LeO.ite ?_ ?_
       | refine LeO.bind ?_ (fun _ => ?_)
theorem sched_counts.mono : ∀ a0 a1 a2 a3 k, LeO (sched_counts.f k a0 a1 a2 a3) (sched_counts.f (k + 1) a0 a1 a2 a3) := by
  intro a0 a1 a2 a3 k
  obtain ⟨ih0, ih1⟩ := sched_counts.mono_l k
  exact ih0 a0 a1 a2 a3
set_option maxHeartbeats 8000000 in
set_option maxRecDepth 100000 in
theorem sched_counts.calls (k : Nat) : ∀ (a0_0 : Int) (A0_1 : Option Addr) (c0_1 : Nat) (l0_1 : List Int) (A0_2 : Option Addr) (c0_2 : Nat) (l0_2 : List Int) (A0_3 : Option Addr) (c0_3 : Nat) (l0_3 : List (S26)) (r1 : Int) (r2 : Int) (w : World) (hr0_1 : Kd.C (Kd.int .u32) w A0_1 l0_1.length l0_1) (hc0_1 : l0_1.length ≤ c0_1) (hr0_2 : Kd.C (Kd.int .i64) w A0_2 l0_2.length l0_2) (hc0_2 : l0_2.length ≤ c0_2) (hr0_3 : Kd.C k26 w A0_3 l0_3.length l0_3) (hc0_3 : l0_3.length ≤ c0_3) (h : sched_counts.f k a0_0 l0_1 l0_2 l0_3 = some (r1, r2)),
    Calls Tryd.prog 33 #[.agg #[.int .i64 a0_0, .slice A0_1 l0_1.length c0_1, .slice A0_2 l0_2.length c0_2, .slice A0_3 l0_3.length c0_3]] w fun e w' => e = .returned (.tuple #[.int .i64 r1, .int .i64 r2]) ∧ Below w.heap.size w w' := by
  induction k using Nat.strongRecOn with
  | _ k ih =>
  intro a0_0 A0_1 c0_1 l0_1 A0_2 c0_2 l0_2 A0_3 c0_3 l0_3 r1 r2 w hr0_1 hc0_1 hr0_2 hc0_2 hr0_3 hc0_3 h
  cases k with
  | zero => exact absurd h (by simp [sched_counts.f])
  | succ k =>
  simp only [sched_counts.f] at h
  have hu26 := Tryd.underlying26
  have HR0_1 := Aside0.mk hr0_1
  have HC0_1 := Aside0.mk hc0_1
  clear hr0_1 hc0_1
  have HR0_2 := Aside0.mk hr0_2
  have HC0_2 := Aside0.mk hc0_2
  clear hr0_2 hc0_2
  have HR0_3 := Aside0.mk hr0_3
  have HC0_3 := Aside0.mk hc0_3
  clear hr0_3 hc0_3
  have HB := Aside0.mk (Below.refl w.heap.size w)
  have H : (sched_counts.l0 k 0 1 l0_3 (l0_3.length : Int) 0) = some (r1, r2) := h
  clear h
  have H' := Aside0.mk H
  clear H
  go_enter Tryd.func33, Tryd.ntmps33
  go_wp2_with (first | ((with_reducible refine gate_dst (N := 1) rfl ?_); refine box_event ?hg (N := 1) ?hd (cs := #[.int .i64 a0_0, .slice A0_1 l0_1.length c0_1, .slice A0_2 l0_2.length c0_2, .slice A0_3 l0_3.length c0_3]) (t := 26) ?hr ?_; (case hd => rfl); (case hg => rfl); (case hr => first | (go_simp; done) | (go_simp; rfl)); intro gb101 hg w2 hbox hb; have BK101 := Aside0.mk (hbox); have GW101 := bsz (w := w) hg; have GE101 := bsz (w := w) hg; replace HB := bst hb; clear hb hbox hg; obtain ⟨_, _, _, _, _, _, _, _⟩ := bx4 BK101.out))
  go_loopg [4, 5, 13] k (fun kq v4 v5 v13 w' => ∃ (x4_1 : Int) (x5_1 : Int) (x13_1 : Int), v4 = .int .i64 x4_1 ∧ v5 = .int .i64 x5_1 ∧ v13 = .int .i64 x13_1 ∧ Aside0 (sched_counts.l0 kq x4_1 x5_1 l0_3 (l0_3.length : Int) x13_1 = some (r1, r2)) ∧ Aside0 (kq ≤ k) ∧ Aside0 (w'.heap[gb101]? = some (.cells #[.int .i64 a0_0, (.slice A0_1 l0_1.length c0_1), (.slice A0_2 l0_2.length c0_2), (.slice A0_3 l0_3.length c0_3)] 26 (0, 0))) ∧ Aside0 (Below w.heap.size w w'))
  case atStart => exact ⟨(0), (1), (0), id_, id_, id_, H', ⟨Nat.le_refl _⟩, ⟨bkk⟩, ⟨hbb⟩⟩
  case round =>
    clear H'
    obtain ⟨x4_1, x5_1, x13_1, rfl, rfl, rfl, HA, HK1, BK101, HB⟩ := hrel
    cases gk with
    | zero => exact absurd HA.out (by simp [sched_counts.l0])
    | succ k1 =>
      have H := HA.out
      clear HA
      simp only [sched_counts.l0] at H
      by_cases c4 : x13_1 < (l0_3.length : Int)
      · rw [if_pos c4] at H
        have c4b0 := decide_eq_true c4
        clear c4
        by_cases c5 : 0 ≤ x13_1
        · rw [if_pos c5] at H
          have c5b0 := decide_eq_true c5
          clear c5
          by_cases c6 : x13_1 < (l0_3.length : Int)
          · rw [if_pos c6] at H
            have c6b0 := decide_eq_true c6
            clear c6
            replace H := Option.bind_eq_some_iff.mp H
            obtain ⟨⟨t104, t105⟩, A70, H⟩ := H
            replace H : (sched_counts.l0 k1 (mx x4_1 t104) (wrap64 (x5_1 + t105)) l0_3 (l0_3.length : Int) (wrap64 (x13_1 + 1))) = some (r1, r2) := H
            have A7 := Aside0.mk A70
            clear A70
            obtain ⟨ji8, hji8⟩ : ∃ j_ : Int, (mx x4_1 t104) = j_ := ⟨_, rfl⟩
            replace H : (sched_counts.l0 k1 ji8 (wrap64 (x5_1 + t105)) l0_3 (l0_3.length : Int) (wrap64 (x13_1 + 1))) = some (r1, r2) := by first | (rw [hji8] at H; exact H) | (simp only [hji8] at H ⊢; exact H)
            have hji8_ : (if x4_1 < t104 then t104 else x4_1) = ji8 := hji8
            have H' := Aside0.mk H
            clear H
            have p102 : 0 ≤ (x13_1 : Int) := of_decide_eq_true as_
            have q102 : x13_1 < (l0_3.length : Int) := of_decide_eq_true as_
            obtain ⟨ad102, A102_1, c102_1, A102_2, c102_2, A102_3, c102_3, e102, hx102_0, hx102_1, hx102_2, hx102_3, hl102_1, hi102_1, hl102_2, hi102_2, hl102_3, hi102_3⟩ := at_T26 HR0_3.out x13_1 p102 q102
            cases e102
            replace hx102_0 := upc hx102_0
            replace hx102_1 := upc hx102_1
            replace hx102_2 := upc hx102_2
            replace hx102_3 := upc hx102_3
            have HR102_1 := Aside0.mk hi102_1
            have HC102_1 := Aside0.mk hl102_1
            clear hi102_1 hl102_1
            have HR102_2 := Aside0.mk hi102_2
            have HC102_2 := Aside0.mk hl102_2
            clear hi102_2 hl102_2
            have HR102_3 := Aside0.mk hi102_3
            have HC102_3 := Aside0.mk hl102_3
            clear hi102_3 hl102_3
            replace p102 := eq_true p102
            replace q102 := eq_true q102
            go_wp2_with (first | ((with_reducible refine gate_dst (N := 7) rfl ?_); refine box_event ?hg (N := 7) ?hd (cs := #[.int .i64 0, .slice none 0 0, .slice none 0 0, .slice none 0 0]) (t := 26) ?hr ?_; (case hd => rfl); (case hg => rfl); (case hr => first | (go_simp; done) | (go_simp; rfl)); intro gb103 hg w9 hbox hb; have BK103 := Aside0.mk (hbox); have GW103 := bsz (w := w) hg; have GE103 := bsz (w := w) hg; have NB101_103 := Aside0.mk ((by rw [hg]; exact Nat.ne_of_lt (blk_lt (g := gb101) (o := .cells #[.int .i64 a0_0, .slice A0_1 l0_1.length c0_1, .slice A0_2 l0_2.length c0_2, .slice (some ad102) l0_3.length c0_3] 26 (0, 0)) bkk) : gb101 ≠ gb103)); have NB103_101 := Aside0.mk ((by rw [hg]; exact Nat.ne_of_gt (blk_lt (g := gb101) (o := .cells #[.int .i64 a0_0, .slice A0_1 l0_1.length c0_1, .slice A0_2 l0_2.length c0_2, .slice (some ad102) l0_3.length c0_3] 26 (0, 0)) bkk) : gb103 ≠ gb101)); replace BK101 := bks BK101 hb; replace HB := bst hb; clear hb hbox hg; have hnb10 := NB103_101.out; have hnc10 := NB101_103.out; obtain ⟨_, _, _, _, _, _, _, _⟩ := bx4 BK103.out) | ((with_reducible refine gate_callee (f := 33) rfl ?_); refine gL (some 19) Tryd.func33 #[.agg #[.int .i64 ((rd_T26 l0_3 x13_1).f0), .slice A102_1 ((rd_T26 l0_3 x13_1).f1).length c102_1, .slice A102_2 ((rd_T26 l0_3 x13_1).f2).length c102_2, .slice A102_3 ((rd_T26 l0_3 x13_1).f3).length c102_3]] ?_; (with_reducible refine (ih k1 (by have := HK1.out; omega) ((rd_T26 l0_3 x13_1).f0) _ _ ((rd_T26 l0_3 x13_1).f1) _ _ ((rd_T26 l0_3 x13_1).f2) _ _ ((rd_T26 l0_3 x13_1).f3) t104 t105 _ ?side1 ?side2 ?side3 ?side4 ?side5 ?side6 A7.out).mono ?_); (case side1 => exact Kd.C_below HR102_1.out hbb); (case side2 => exact HC102_1.out); (case side3 => exact Kd.C_below HR102_2.out hbb); (case side4 => exact HC102_2.out); (case side5 => exact Kd.C_below HR102_3.out hbb); (case side6 => exact HC102_3.out); rintro e w12 ⟨rfl, hb⟩; refine ⟨_, rfl, ?_⟩; replace BK101 := bks BK101 hb; replace BK103 := Aside0.mk (blk_below (g := gb103) (o := .cells #[.int .i64 ((rd_T26 l0_3 x13_1).f0), .slice A102_1 ((rd_T26 l0_3 x13_1).f1).length c102_1, .slice A102_2 ((rd_T26 l0_3 x13_1).f2).length c102_2, .slice A102_3 ((rd_T26 l0_3 x13_1).f3).length c102_3] 26 (0, 0)) (by (with_reducible repeat (first | refine blk_drewN ?_ _ | refine blk_drew ?_ | refine blk_alloc ?_ _)); refine blk_put (cs := #[.int .i64 ((rd_T26 l0_3 x13_1).f0), .slice A102_1 ((rd_T26 l0_3 x13_1).f1).length c102_1, .slice A102_2 ((rd_T26 l0_3 x13_1).f2).length c102_2, .slice none 0 0]) ?_ 3 _ rfl; (with_reducible repeat (first | refine blk_drewN ?_ _ | refine blk_drew ?_ | refine blk_alloc ?_ _)); refine blk_put (cs := #[.int .i64 ((rd_T26 l0_3 x13_1).f0), .slice A102_1 ((rd_T26 l0_3 x13_1).f1).length c102_1, .slice none 0 0, .slice none 0 0]) ?_ 2 _ rfl; (with_reducible repeat (first | refine blk_drewN ?_ _ | refine blk_drew ?_ | refine blk_alloc ?_ _)); refine blk_put (cs := #[.int .i64 ((rd_T26 l0_3 x13_1).f0), .slice none 0 0, .slice none 0 0, .slice none 0 0]) ?_ 1 _ rfl; (with_reducible repeat (first | refine blk_drewN ?_ _ | refine blk_drew ?_ | refine blk_alloc ?_ _)); refine blk_put (cs := #[.int .i64 0, .slice none 0 0, .slice none 0 0, .slice none 0 0]) ?_ 0 _ rfl; (with_reducible repeat (first | refine blk_drewN ?_ _ | refine blk_drew ?_ | refine blk_alloc ?_ _)); exact BK103.out) hb); replace HB := bst hb; (try clear hb)))
            go_roundg k1
            case measure => have := HK1.out; omega
            case rel => exact ⟨(ji8), (wrap64 (x5_1 + t105)), (wrap64 (x13_1 + 1)), (by first | rfl | (simp; done) | (simp only [← hji8] <;> (first | rfl | simp)) | (simp [*]; done)), id_, id_, (by first | exact H' | (rw [hji8]; exact H')), ⟨by have := HK1.out; omega⟩, ⟨bkk⟩, ⟨hbb⟩⟩
          · rw [if_neg c6] at H
            exact absurd H (by simp)
        · rw [if_neg c5] at H
          exact absurd H (by simp)
      · rw [if_neg c4] at H
        have c4b0 := decide_eq_false c4
        clear c4
        simp only [Option.some.injEq, Prod.mk.injEq] at H
        obtain ⟨rfl, rfl⟩ := H
        go_wp2
        go_ret2
        exact fin_

-- NOT PRINTED: function 79 (api_F_79)

-- NOT PRINTED: function 62 (api_F_62)

/-! ### sched_within: function 29 -/
def sched_within.f (a0 : Int) (a1 : Int) (a2 : Int) : Option (Bool) := if a0 ≥ a1 then (some (decide (a0 ≤ a2))) else (some false)
set_option maxHeartbeats 8000000 in
set_option maxRecDepth 100000 in
theorem sched_within.calls (a0 : Int) (a1 : Int) (a2 : Int) (r : Bool) (w : World) (h : sched_within.f a0 a1 a2 = some r) :
    Calls Tryd.prog 29 #[.int .i64 a0, .int .i64 a1, .int .i64 a2] w fun e w' => e = .returned (.bool r) ∧ Drawn0 w w' := by
  have H : (if a0 ≥ a1 then (some (decide (a0 ≤ a2))) else (some false)) = some r := h
  clear h
  by_cases c4 : a0 ≥ a1
  · rw [if_pos c4] at H
    have c4b0 : decide (a1 ≤ a0) = true := decide_eq_true c4
    clear c4
    obtain rfl := Option.some.inj H
    go_enter Tryd.func29, Tryd.ntmps29
    go_wp2
    go_ret
    exact ⟨by first | rfl | (simp; done) | (simp [*]; done), by repeat (first | exact Drawn0.refl _ | apply Drawn0.step)⟩
  · rw [if_neg c4] at H
    have c4b0 : decide (a1 ≤ a0) = false := decide_eq_false c4
    clear c4
    obtain rfl := Option.some.inj H
    go_enter Tryd.func29, Tryd.ntmps29
    go_wp2
    go_ret
    exact ⟨by first | rfl | (simp; done) | (simp [*]; done), by repeat (first | exact Drawn0.refl _ | apply Drawn0.step)⟩

-- NOT PRINTED: function 88 (math_Float32frombits)

-- NOT PRINTED: function 70 (float_of)

/-! ### float_Less: function 38 (given) -/
def float_Less.f (a0 : Int) (a1 : Int) : Option (Bool) := some (Lathe.flt a0.toNat a1.toNat)
theorem float_Less.calls (a0 : Int) (a1 : Int) (r : Bool) (w : World) (h : float_Less.f a0 a1 = some r) :
    Calls Tryd.prog 38 #[.int .u32 a0, .int .u32 a1] w fun e w' => e = .returned (.bool r) ∧ Drawn0 w w' := by
  have h := Option.some.inj h
  subst h
  exact (Flo.Less a0 a1 w).mono fun e w' h => ⟨h.1, h.2 ▸ Drawn0.refl _⟩

/-! ### sched_rising: function 83 -/
def sched_rising.l0 : Nat → List Int → Int → List Int → Int → Int → Option (Bool)
  | 0, _, _, _, _, _ => none
  | k + 1, x0, x3, x6, x7, x8 => if x8 < x7 then (if 0 ≤ x8 then (if x8 < (x6.length : Int) then ((sched_within.f (rd x6 x8) (wrap64 (x3 + 1)) 2147483647).bind fun t107 => (if t107 = true then (sched_rising.l0 k x0 (rd x6 x8) x6 x7 (wrap64 (x8 + 1))) else (some false))) else (none)) else (none)) else (some (decide ((x0.length : Int) > 0)))
def sched_rising.f (k : Nat) (l0 : List Int) : Option (Bool) := sched_rising.l0 k l0 0 l0 (l0.length : Int) 0
theorem sched_rising.mono_l : ∀ k, (∀ y0 y1 y2 y3 y4, LeO (sched_rising.l0 k y0 y1 y2 y3 y4) (sched_rising.l0 (k + 1) y0 y1 y2 y3 y4))
  | 0 => fun _ _ _ _ _ r h => by simp [sched_rising.l0] at h
  | k + 1 => by
    have ih0 := sched_rising.mono_l k
    · intro y0 y1 y2 y3 y4
      unfold sched_rising.l0
      repeat' with_reducible first
       | exact ih0 _ _ _ _ _
       | exact LeO.refl _
       | exact LeO.none _
       | refine LeO.ite ?_ ?_
       | refine LeO.bind ?_ (fun _ => ?_)
theorem sched_rising.mono : ∀ a0 k, LeO (sched_rising.f k a0) (sched_rising.f (k + 1) a0) := by
  intro a0 k
  have ih0 := sched_rising.mono_l k
  unfold sched_rising.f
  repeat' with_reducible first
   | exact ih0 _ _ _ _ _
   | exact LeO.refl _
   | exact LeO.none _
   | refine LeO.ite ?_ ?_
   | refine LeO.bind ?_ (fun _ => ?_)
set_option maxHeartbeats 8000000 in
set_option maxRecDepth 100000 in
theorem sched_rising.calls (k : Nat) (A0 : Option Addr) (c0 : Nat) (l0 : List Int) (r : Bool) (w : World) (hr0 : Kd.C (Kd.int .i64) w A0 l0.length l0) (hc0 : l0.length ≤ c0) (h : sched_rising.f k l0 = some r) :
    Calls Tryd.prog 83 #[.slice A0 l0.length c0] w fun e w' => e = .returned (.bool r) ∧ Drawn0 w w' := by
  have HR0 := Aside0.mk hr0
  have HC0 := Aside0.mk hc0
  clear hr0 hc0
  have H : (sched_rising.l0 k l0 0 l0 (l0.length : Int) 0) = some r := h
  clear h
  have H' := Aside0.mk H
  clear H
  go_enter Tryd.func83, Tryd.ntmps83
  go_wp2
  go_loopg [3, 8] k (fun kq v3 v8 w' => ∃ (x3_1 : Int) (x8_1 : Int), v3 = .int .i64 x3_1 ∧ v8 = .int .i64 x8_1 ∧ Aside0 (sched_rising.l0 kq l0 x3_1 l0 (l0.length : Int) x8_1 = some r) ∧ Aside0 (kq ≤ k) ∧ Drawn0 w w')
  case atStart => exact ⟨(0), (0), id_, id_, H', ⟨Nat.le_refl _⟩, by repeat (first | exact Drawn0.refl _ | apply Drawn0.step)⟩
  case round =>
    clear H'
    obtain ⟨x3_1, x8_1, rfl, rfl, HA, HK1, ⟨m1, rfl⟩⟩ := hrel
    cases gk with
    | zero => exact absurd HA.out (by simp [sched_rising.l0])
    | succ k1 =>
      have H := HA.out
      clear HA
      simp only [sched_rising.l0] at H
      by_cases c2 : x8_1 < (l0.length : Int)
      · rw [if_pos c2] at H
        have c2b0 := decide_eq_true c2
        clear c2
        by_cases c3 : 0 ≤ x8_1
        · rw [if_pos c3] at H
          have c3b0 := decide_eq_true c3
          clear c3
          by_cases c4 : x8_1 < (l0.length : Int)
          · rw [if_pos c4] at H
            have c4b0 := decide_eq_true c4
            clear c4
            replace H := Option.bind_eq_some_iff.mp H
            obtain ⟨t107, A50, H⟩ := H
            have A5 := Aside0.mk A50
            clear A50
            by_cases c6 : t107 = true
            · subst c6
              rw [if_pos rfl] at H
              have H' := Aside0.mk H
              clear H
              have p106 : 0 ≤ (x8_1 : Int) := of_decide_eq_true as_
              have q106 : x8_1 < (l0.length : Int) := of_decide_eq_true as_
              obtain ⟨ad106, e106, hx106_0⟩ := Kd.at_int HR0.out x8_1 p106 q106
              cases e106
              replace p106 := eq_true p106
              replace q106 := eq_true q106
              go_wp2_with (first | ((with_reducible refine gate_callee (f := 29) rfl ?_); refine gL (some 15) Tryd.func29 #[.int .i64 (rd l0 x8_1), .int .i64 (wrap64 (x3_1 + 1)), .int .i64 2147483647] ?_; (with_reducible refine (sched_within.calls (rd l0 x8_1) (wrap64 (x3_1 + 1)) 2147483647 true _ A5.out).mono ?_); clear A5; rintro e w' ⟨rfl, ⟨nd, rfl⟩⟩; refine ⟨_, rfl, ?_⟩))
              go_roundg k1
              case measure => have := HK1.out; omega
              case rel => exact ⟨(rd l0 x8_1), (wrap64 (x8_1 + 1)), id_, id_, H', ⟨by have := HK1.out; omega⟩, by repeat (first | exact Drawn0.refl _ | apply Drawn0.step)⟩
            · replace c6 := Bool.eq_false_iff.mpr c6
              subst c6
              rw [if_neg (show ¬ (false = true) by decide)] at H
              obtain rfl := Option.some.inj H
              have p106 : 0 ≤ (x8_1 : Int) := of_decide_eq_true as_
              have q106 : x8_1 < (l0.length : Int) := of_decide_eq_true as_
              obtain ⟨ad106, e106, hx106_0⟩ := Kd.at_int HR0.out x8_1 p106 q106
              cases e106
              replace p106 := eq_true p106
              replace q106 := eq_true q106
              go_wp2_with (first | ((with_reducible refine gate_callee (f := 29) rfl ?_); refine gL (some 15) Tryd.func29 #[.int .i64 (rd l0 x8_1), .int .i64 (wrap64 (x3_1 + 1)), .int .i64 2147483647] ?_; (with_reducible refine (sched_within.calls (rd l0 x8_1) (wrap64 (x3_1 + 1)) 2147483647 false _ A5.out).mono ?_); clear A5; rintro e w' ⟨rfl, ⟨nd, rfl⟩⟩; refine ⟨_, rfl, ?_⟩))
              go_ret
              exact ⟨by first | rfl | (simp; done) | (simp [*]; done), by repeat (first | exact Drawn0.refl _ | apply Drawn0.step)⟩
          · rw [if_neg c4] at H
            exact absurd H (by simp)
        · rw [if_neg c3] at H
          exact absurd H (by simp)
      · rw [if_neg c2] at H
        have c2b0 := decide_eq_false c2
        clear c2
        obtain rfl := Option.some.inj H
        go_wp2
        go_ret
        exact ⟨by first | rfl | (simp; done) | (simp [*]; done), by repeat (first | exact Drawn0.refl _ | apply Drawn0.step)⟩

-- NOT PRINTED: function 65 (sched_row)

-- NOT PRINTED: function 84 (api_Sched_84)

-- NOT PRINTED: function 66 (api_Sched_66)

/-! ### float_Min: function 36 (given) -/
def float_Min.f (a0 : Int) (a1 : Int) : Option (Int) := some (Lathe.fmin a0.toNat a1.toNat : Nat)
theorem float_Min.calls (a0 : Int) (a1 : Int) (r : Int) (w : World) (h : float_Min.f a0 a1 = some r) :
    Calls Tryd.prog 36 #[.int .u32 a0, .int .u32 a1] w fun e w' => e = .returned (.int .u32 r) ∧ Drawn0 w w' := by
  have h := Option.some.inj h
  subst h
  exact Flo.Min a0 a1 w

/-! ### float_Max: function 37 (given) -/
def float_Max.f (a0 : Int) (a1 : Int) : Option (Int) := some (Lathe.fmax a0.toNat a1.toNat : Nat)
theorem float_Max.calls (a0 : Int) (a1 : Int) (r : Int) (w : World) (h : float_Max.f a0 a1 = some r) :
    Calls Tryd.prog 37 #[.int .u32 a0, .int .u32 a1] w fun e w' => e = .returned (.int .u32 r) ∧ Drawn0 w w' := by
  have h := Option.some.inj h
  subst h
  exact Flo.Max a0 a1 w

/-! ### float_Sub: function 39 (given) -/
def float_Sub.f (a0 : Int) (a1 : Int) : Option (Int) := some (Lathe.fsub a0.toNat a1.toNat : Nat)
theorem float_Sub.calls (a0 : Int) (a1 : Int) (r : Int) (w : World) (h : float_Sub.f a0 a1 = some r) :
    Calls Tryd.prog 39 #[.int .u32 a0, .int .u32 a1] w fun e w' => e = .returned (.int .u32 r) ∧ Drawn0 w w' := by
  have h := Option.some.inj h
  subst h
  exact Flo.Sub a0 a1 w

/-! ### float_Mul: function 40 (given) -/
def float_Mul.f (a0 : Int) (a1 : Int) : Option (Int) := some (Lathe.fmul a0.toNat a1.toNat : Nat)
theorem float_Mul.calls (a0 : Int) (a1 : Int) (r : Int) (w : World) (h : float_Mul.f a0 a1 = some r) :
    Calls Tryd.prog 40 #[.int .u32 a0, .int .u32 a1] w fun e w' => e = .returned (.int .u32 r) ∧ Drawn0 w w' := by
  have h := Option.some.inj h
  subst h
  exact Flo.Mul a0 a1 w

/-! ### float_Add: function 41 (given) -/
def float_Add.f (a0 : Int) (a1 : Int) : Option (Int) := some (Lathe.fadd a0.toNat a1.toNat : Nat)
theorem float_Add.calls (a0 : Int) (a1 : Int) (r : Int) (w : World) (h : float_Add.f a0 a1 = some r) :
    Calls Tryd.prog 41 #[.int .u32 a0, .int .u32 a1] w fun e w' => e = .returned (.int .u32 r) ∧ Drawn0 w w' := by
  have h := Option.some.inj h
  subst h
  exact Flo.Add a0 a1 w

/-! ### float_Neg: function 42 (given) -/
def float_Neg.f (a0 : Int) : Option (Int) := some (Lathe.fneg a0.toNat : Nat)
theorem float_Neg.calls (a0 : Int) (r : Int) (w : World) (h : float_Neg.f a0 = some r) :
    Calls Tryd.prog 42 #[.int .u32 a0] w fun e w' => e = .returned (.int .u32 r) ∧ Drawn0 w w' := by
  have h := Option.some.inj h
  subst h
  exact (Flo.Neg a0 w).mono fun e w' h => ⟨h.1, h.2 ▸ Drawn0.refl _⟩

/-! ### float_Div: function 74 (given) -/
def float_Div.f (a0 : Int) (a1 : Int) : Option (Int) := some (Lathe.fdiv a0.toNat a1.toNat : Nat)
theorem float_Div.calls (a0 : Int) (a1 : Int) (r : Int) (w : World) (h : float_Div.f a0 a1 = some r) :
    Calls Tryd.prog 74 #[.int .u32 a0, .int .u32 a1] w fun e w' => e = .returned (.int .u32 r) ∧ Drawn0 w w' := by
  have h := Option.some.inj h
  subst h
  exact Flo.Div a0 a1 w

/-! ### float_FromInt: function 75 (given) -/
def float_FromInt.f (a0 : Int) : Option (Int) := some (Lathe.tl (Lathe.fint a0) : Nat)
theorem float_FromInt.calls (a0 : Int) (r : Int) (w : World) (h : float_FromInt.f a0 = some r) :
    Calls Tryd.prog 75 #[.int .i64 a0] w fun e w' => e = .returned (.int .u32 r) ∧ Drawn0 w w' := by
  have h := Option.some.inj h
  subst h
  exact (Flo.FromInt a0 w).mono fun e w' h => ⟨h.1, h.2 ▸ Drawn0.refl _⟩

/-! ### sched_part: function 54 -/
def sched_part.f (a0 : Int) (a1 : Int) : Option (Int) := (float_FromInt.f a0).bind fun t113 => ((float_FromInt.f a1).bind fun t114 => ((float_Div.f t113 t114).bind fun t115 => (some t115)))
set_option maxHeartbeats 8000000 in
set_option maxRecDepth 100000 in
theorem sched_part.calls (a0 : Int) (a1 : Int) (r : Int) (w : World) (h : sched_part.f a0 a1 = some r) :
    Calls Tryd.prog 54 #[.int .i64 a0, .int .i64 a1] w fun e w' => e = .returned (.int .u32 r) ∧ Drawn0 w w' := by
  have H : ((float_FromInt.f a0).bind fun t113 => ((float_FromInt.f a1).bind fun t114 => ((float_Div.f t113 t114).bind fun t115 => (some t115)))) = some r := h
  clear h
  replace H := Option.bind_eq_some_iff.mp H
  obtain ⟨t113, A30, H⟩ := H
  have A3 := Aside0.mk A30
  clear A30
  replace H := Option.bind_eq_some_iff.mp H
  obtain ⟨t114, A40, H⟩ := H
  have A4 := Aside0.mk A40
  clear A40
  replace H := Option.bind_eq_some_iff.mp H
  obtain ⟨t115, A50, H⟩ := H
  have A5 := Aside0.mk A50
  clear A50
  obtain rfl := Option.some.inj H
  go_enter Tryd.func54, Tryd.ntmps54
  go_wp2_with (first | ((with_reducible refine gate_callee (f := 75) rfl ?_); refine gL (some 6) Tryd.func75 #[.int .i64 a0] ?_; (with_reducible refine (float_FromInt.calls a0 t113 _ A3.out).mono ?_); clear A3; rintro e w' ⟨rfl, ⟨nd, rfl⟩⟩; refine ⟨_, rfl, ?_⟩) | ((with_reducible refine gate_callee (f := 75) rfl ?_); refine gL (some 8) Tryd.func75 #[.int .i64 a1] ?_; (with_reducible refine (float_FromInt.calls a1 t114 _ A4.out).mono ?_); clear A4; rintro e w' ⟨rfl, ⟨nd, rfl⟩⟩; refine ⟨_, rfl, ?_⟩) | ((with_reducible refine gate_callee (f := 74) rfl ?_); refine gL (some 9) Tryd.func74 #[.int .u32 t113, .int .u32 t114] ?_; (with_reducible refine (float_Div.calls t113 t114 t115 _ A5.out).mono ?_); clear A5; rintro e w' ⟨rfl, ⟨nd, rfl⟩⟩; refine ⟨_, rfl, ?_⟩))
  go_ret
  exact ⟨by first | rfl | (simp; done) | (simp [*]; done), by repeat (first | exact Drawn0.refl _ | apply Drawn0.step)⟩

-- NOT PRINTED: function 89 (bits_Len32)

-- NOT PRINTED: function 90 (bits_Len64)

/-! ### bits_Len: function 76 (given) -/
def bits_Len.f (a0 : Int) : Option (Int) := if 0 ≤ a0 ∧ a0 ≤ 18446744073709551615 then some (Lib.bitLen a0.toNat : Int) else none
theorem bits_Len.calls (a0 : Int) (r : Int) (w : World) (h : bits_Len.f a0 = some r) :
    Calls Tryd.prog 76 #[.int .u64 a0] w fun e w' => e = .returned (.int .i64 r) ∧ Drawn0 w w' := by
  unfold bits_Len.f at h
  split at h
  case isFalse => cases h
  rename_i g
  have h := Option.some.inj h
  subst h
  exact (Tryd.bits_Len a0 w g.1 g.2).mono fun e w' h => ⟨h.1, h.2 ▸ Drawn0.refl _⟩

/-! ### float_Power: function 55 (given) -/
def float_Power.f (a0 : Int) (a1 : Int) : Option (Int) := if 0 ≤ a0 ∧ a1 ≤ 9223372036854775807 then some (Lathe.fpow a0.toNat a1 : Nat) else none
theorem float_Power.calls (a0 : Int) (a1 : Int) (r : Int) (w : World) (h : float_Power.f a0 a1 = some r) :
    Calls Tryd.prog 55 #[.int .u32 a0, .int .i64 a1] w fun e w' => e = .returned (.int .u32 r) ∧ Drawn0 w w' := by
  unfold float_Power.f at h
  split at h
  case isFalse => cases h
  rename_i g
  have h := Option.some.inj h
  subst h
  exact Pow.Power a0 a1 w g.2 g.1

-- NOT PRINTED: function 91 (math_sqrt)

-- NOT PRINTED: function 77 (math_Sqrt)

/-! ### float_Sqrt: function 56 (given) -/
def float_Sqrt.f (a0 : Int) : Option (Int) := some (Lathe.fsqrt a0.toNat : Nat)
theorem float_Sqrt.calls (a0 : Int) (r : Int) (w : World) (h : float_Sqrt.f a0 = some r) :
    Calls Tryd.prog 56 #[.int .u32 a0] w fun e w' => e = .returned (.int .u32 r) ∧ Drawn0 w w' := by
  have h := Option.some.inj h
  subst h
  exact Flo.Sqrt a0 w

/-! ### float_Select: function 57 (given) -/
def float_Select.f (a0 : Int) (a1 : Int) (a2 : Int) : Option (Int) := some (Lathe.fsel a0.toNat a1.toNat a2.toNat : Nat)
theorem float_Select.calls (a0 : Int) (a1 : Int) (a2 : Int) (r : Int) (w : World) (h : float_Select.f a0 a1 a2 = some r) :
    Calls Tryd.prog 57 #[.int .u32 a0, .int .u32 a1, .int .u32 a2] w fun e w' => e = .returned (.int .u32 r) ∧ Drawn0 w w' := by
  have h := Option.some.inj h
  subst h
  exact (Flo.Select a0 a1 a2 w).mono fun e w' h => ⟨h.1, h.2 ▸ Drawn0.refl _⟩

end Go.Proofs.YtmfladkimmnccaaDoor.PW
