/- The functions of the program that a statement reaches, as plain functions, and that the machine's calls do what these say. No condition. (Printed by a program.) -/
import Derived.Test.YtmfladkimmnccaaDoorPWxa
import Derived.Test.YtmfladkimmnccaaDoorWav
import Derived.Test.YtmfladkimmnccaaDoorMag
import Derived.Test.YtmfladkimmnccaaDoorWal
namespace Go.Proofs.YtmfladkimmnccaaDoor.PW
open Go.RowKit Go.Proofs.YtmfladkimmnccaaDoorW.PrintWords Go.Proofs.YtmfladkimmnccaaDoorW.PrintLast Go.Proofs.YtmfladkimmnccaaDoorW.PrintMore Go.Proofs.YtmfladkimmnccaaDoor.Sht
attribute [local go_sem] max2_int min2_int max_two min_two max_three min_three max_four min_four   -- for this text's walks alone
set_option linter.unusedVariables false
set_option linter.unusedSimpArgs false

/-! ### lathelaw14_count: function 28 -/
mutual
def lathelaw14_count.l0 : Nat → Int → Int → Int → Int → List Int → List Int → List (S26) → Option (Int)
  | 0, _, _, _, _, _, _, _ => none
  | k + 1, x1, x5, x6, x102000, x102001, x102002, x102003 => if x6 < (x102003.length : Int) then (if x5 ≤ x1 then (if 0 ≤ x6 then ((lathelaw14_count.f k ((rd_T26 x102003 x6).f0) ((rd_T26 x102003 x6).f1) ((rd_T26 x102003 x6).f2) ((rd_T26 x102003 x6).f3) (wrap64 (x1 - x5))).bind fun t103 => (lathelaw14_count.l0 k x1 (wrap64 (x5 + t103)) (wrap64 (x6 + 1)) x102000 x102001 x102002 x102003)) else (none)) else (some x5)) else (some x5)
def lathelaw14_count.f : Nat → Int → List Int → List Int → List (S26) → Int → Option (Int)
  | 0, _, _, _, _, _ => none
  | k + 1, a0_0, l0_1, l0_2, l0_3, a1 => lathelaw14_count.l0 k a1 1 0 a0_0 l0_1 l0_2 l0_3
end
theorem lathelaw14_count.mono_l : ∀ k, (∀ y0 y1 y2 y3 y4, LeO (lathelaw14_count.f k y0 y1 y2 y3 y4) (lathelaw14_count.f (k + 1) y0 y1 y2 y3 y4)) ∧ (∀ y0 y1 y2 y3 y4 y5 y6, LeO (lathelaw14_count.l0 k y0 y1 y2 y3 y4 y5 y6) (lathelaw14_count.l0 (k + 1) y0 y1 y2 y3 y4 y5 y6))
  | 0 => ⟨fun _ _ _ _ _ r h => by simp [lathelaw14_count.f] at h, fun _ _ _ _ _ _ _ r h => by simp [lathelaw14_count.l0] at h⟩
  | k + 1 => by
    obtain ⟨ih0, ih1⟩ := lathelaw14_count.mono_l k
    refine ⟨?_, ?_⟩
    · intro y0 y1 y2 y3 y4
      unfold lathelaw14_count.f
      repeat' with_reducible first
       | exact ih0 _ _ _ _ _
       | exact ih1 _ _ _ _ _ _ _
       | exact LeO.refl _
       | exact LeO.none _
       | refine LeO.ite ?_ ?_
       | refine LeO.bind ?_ (fun _ => ?_)
    · intro y0 y1 y2 y3 y4 y5 y6
      unfold lathelaw14_count.l0
      repeat' with_reducible first
       | exact ih0 _ _ _ _ _
       | exact ih1 _ _ _ _ _ _ _
       | exact LeO.refl _
       | exact LeO.none _
       | refine LeO.ite ?_ ?_
       | refine LeO.bind ?_ (fun _ => ?_)
theorem lathelaw14_count.mono : ∀ a0 a1 a2 a3 a4 k, LeO (lathelaw14_count.f k a0 a1 a2 a3 a4) (lathelaw14_count.f (k + 1) a0 a1 a2 a3 a4) := by
  intro a0 a1 a2 a3 a4 k
  obtain ⟨ih0, ih1⟩ := lathelaw14_count.mono_l k
  exact ih0 a0 a1 a2 a3 a4
set_option maxHeartbeats 8000000 in
set_option maxRecDepth 100000 in
theorem lathelaw14_count.calls (k : Nat) : ∀ (a0_0 : Int) (A0_1 : Option Addr) (c0_1 : Nat) (l0_1 : List Int) (A0_2 : Option Addr) (c0_2 : Nat) (l0_2 : List Int) (A0_3 : Option Addr) (c0_3 : Nat) (l0_3 : List (S26)) (a1 : Int) (r : Int) (w : World) (hr0_1 : Kd.C (Kd.int .u32) w A0_1 l0_1.length l0_1) (hc0_1 : l0_1.length ≤ c0_1) (hr0_2 : Kd.C (Kd.int .i64) w A0_2 l0_2.length l0_2) (hc0_2 : l0_2.length ≤ c0_2) (hr0_3 : Kd.C k26 w A0_3 l0_3.length l0_3) (hc0_3 : l0_3.length ≤ c0_3) (h : lathelaw14_count.f k a0_0 l0_1 l0_2 l0_3 a1 = some r),
    Calls Tryd.prog 28 #[.agg #[.int .i64 a0_0, .slice A0_1 l0_1.length c0_1, .slice A0_2 l0_2.length c0_2, .slice A0_3 l0_3.length c0_3], .int .i64 a1] w fun e w' => e = .returned (.int .i64 r) ∧ Below w.heap.size w w' := by
  induction k using Nat.strongRecOn with
  | _ k ih =>
  intro a0_0 A0_1 c0_1 l0_1 A0_2 c0_2 l0_2 A0_3 c0_3 l0_3 a1 r w hr0_1 hc0_1 hr0_2 hc0_2 hr0_3 hc0_3 h
  cases k with
  | zero => exact absurd h (by simp [lathelaw14_count.f])
  | succ k =>
  simp only [lathelaw14_count.f] at h
  have hu26 := Tryd.underlying26
  have HR0_1 := Aside0.mk hr0_1
  have HC0_1 := Aside0.mk hc0_1
  clear hr0_1 hc0_1
  have HR0_2 := Aside0.mk hr0_2
  have HC0_2 := Aside0.mk hc0_2
  clear hr0_2 hc0_2
  have HR0_3 := Aside0.mk hr0_3
  have HC0_3 := Aside0.mk hc0_3
  clear hr0_3 hc0_3
  have HB := Aside0.mk (Below.refl w.heap.size w)
  have H : (lathelaw14_count.l0 k a1 1 0 a0_0 l0_1 l0_2 l0_3) = some r := h
  clear h
  have H' := Aside0.mk H
  clear H
  go_enter Tryd.func28, Tryd.ntmps28
  go_wp2_with (first | ((with_reducible refine gate_dst (N := 2) rfl ?_); refine box_event ?hg (N := 2) ?hd (cs := #[.int .i64 a0_0, .slice A0_1 l0_1.length c0_1, .slice A0_2 l0_2.length c0_2, .slice A0_3 l0_3.length c0_3]) (t := 26) ?hr ?_; (case hd => rfl); (case hg => rfl); (case hr => first | (go_simp; done) | (go_simp; rfl)); intro gb101 hg w3 hbox hb; have BK101 := Aside0.mk (hbox); have GW101 := bsz (w := w) hg; have GE101 := bsz (w := w) hg; replace HB := bst hb; clear hb hbox hg))
  go_loopg [5, 6] k (fun kq v5 v6 w' => ∃ (x5_1 : Int) (x6_1 : Int), v5 = .int .i64 x5_1 ∧ v6 = .int .i64 x6_1 ∧ Aside0 (lathelaw14_count.l0 kq a1 x5_1 x6_1 a0_0 l0_1 l0_2 l0_3 = some r) ∧ Aside0 (kq ≤ k) ∧ Aside0 (w'.heap[gb101]? = some (.cells #[.int .i64 a0_0, (.slice A0_1 l0_1.length c0_1), (.slice A0_2 l0_2.length c0_2), (.slice A0_3 l0_3.length c0_3)] 26 (0, 0))) ∧ Aside0 (Below w.heap.size w w'))
  case atStart => exact ⟨(1), (0), id_, id_, H', ⟨Nat.le_refl _⟩, ⟨bkk⟩, ⟨hbb⟩⟩
  case round =>
    clear H'
    obtain ⟨x5_1, x6_1, rfl, rfl, HA, HK1, BK101, HB⟩ := hrel
    cases gk with
    | zero => exact absurd HA.out (by simp [lathelaw14_count.l0])
    | succ k1 =>
      have H := HA.out
      clear HA
      simp only [lathelaw14_count.l0] at H
      by_cases c4 : x6_1 < (l0_3.length : Int)
      · rw [if_pos c4] at H
        have c4b0 := decide_eq_true c4
        clear c4
        by_cases c5 : x5_1 ≤ a1
        · rw [if_pos c5] at H
          have c5b0 := decide_eq_true c5
          clear c5
          by_cases c6 : 0 ≤ x6_1
          · rw [if_pos c6] at H
            have c6b0 := decide_eq_true c6
            clear c6
            replace H := Option.bind_eq_some_iff.mp H
            obtain ⟨t103, A70, H⟩ := H
            have A7 := Aside0.mk A70
            clear A70
            have H' := Aside0.mk H
            clear H
            obtain ⟨_, _, _, _, _, _, _, _⟩ := bx4 BK101.out
            have p102 : 0 ≤ (x6_1 : Int) := of_decide_eq_true as_
            have q102 : x6_1 < (l0_3.length : Int) := of_decide_eq_true as_
            obtain ⟨ad102, A102_1, c102_1, A102_2, c102_2, A102_3, c102_3, e102, hx102_0, hx102_1, hx102_2, hx102_3, hl102_1, hi102_1, hl102_2, hi102_2, hl102_3, hi102_3⟩ := at_T26 HR0_3.out x6_1 p102 q102
            cases e102
            replace hx102_0 := upc hx102_0
            replace hx102_1 := upc hx102_1
            replace hx102_2 := upc hx102_2
            replace hx102_3 := upc hx102_3
            have HR102_1 := Aside0.mk hi102_1
            have HC102_1 := Aside0.mk hl102_1
            clear hi102_1 hl102_1
            have HR102_2 := Aside0.mk hi102_2
            have HC102_2 := Aside0.mk hl102_2
            clear hi102_2 hl102_2
            have HR102_3 := Aside0.mk hi102_3
            have HC102_3 := Aside0.mk hl102_3
            clear hi102_3 hl102_3
            replace p102 := eq_true p102
            replace q102 := eq_true q102
            go_wp2_with (first | ((with_reducible refine gate_callee (f := 28) rfl ?_); refine gL (some 28) Tryd.func28 #[.agg #[.int .i64 ((rd_T26 l0_3 x6_1).f0), .slice A102_1 ((rd_T26 l0_3 x6_1).f1).length c102_1, .slice A102_2 ((rd_T26 l0_3 x6_1).f2).length c102_2, .slice A102_3 ((rd_T26 l0_3 x6_1).f3).length c102_3], .int .i64 (wrap64 (a1 - x5_1))] ?_; (with_reducible refine (ih k1 (by have := HK1.out; omega) ((rd_T26 l0_3 x6_1).f0) _ _ ((rd_T26 l0_3 x6_1).f1) _ _ ((rd_T26 l0_3 x6_1).f2) _ _ ((rd_T26 l0_3 x6_1).f3) (wrap64 (a1 - x5_1)) t103 _ ?side1 ?side2 ?side3 ?side4 ?side5 ?side6 A7.out).mono ?_); (case side1 => exact cb HR102_1); (case side2 => exact HC102_1.out); (case side3 => exact cb HR102_2); (case side4 => exact HC102_2.out); (case side5 => exact cb HR102_3); (case side6 => exact HC102_3.out); rintro e w9 ⟨rfl, hb⟩; refine ⟨_, rfl, ?_⟩; replace BK101 := bks BK101 hb; replace HB := bst hb; (try clear hb)))
            go_roundg k1
            case measure => have := HK1.out; omega
            case rel => exact ⟨(wrap64 (x5_1 + t103)), (wrap64 (x6_1 + 1)), id_, id_, H', ⟨by have := HK1.out; omega⟩, ⟨bkk⟩, ⟨hbb⟩⟩
          · rw [if_neg c6] at H
            exact absurd H (by simp)
        · rw [if_neg c5] at H
          have c5b0 := decide_eq_false c5
          clear c5
          obtain rfl := Option.some.inj H
          obtain ⟨_, _, _, _, _, _, _, _⟩ := bx4 BK101.out
          go_wp2
          go_ret
          exact fin_
      · rw [if_neg c4] at H
        have c4b0 := decide_eq_false c4
        clear c4
        obtain rfl := Option.some.inj H
        obtain ⟨_, _, _, _, _, _, _, _⟩ := bx4 BK101.out
        go_wp2
        go_ret
        exact fin_

/-! ### lathelaw14_great: function 10 -/
def lathelaw14_great.f (k : Nat) (a0_0 : Int) (l0_1 : List Int) (l0_2 : List Int) (l0_3 : List (S26)) : Option (Bool) := (lathelaw14_count.f k a0_0 l0_1 l0_2 l0_3 9000).bind fun t105 => (some (decide (t105 > 9000)))
theorem lathelaw14_great.mono : ∀ a0 a1 a2 a3 k, LeO (lathelaw14_great.f k a0 a1 a2 a3) (lathelaw14_great.f (k + 1) a0 a1 a2 a3) := by
  intro a0 a1 a2 a3 k
  unfold lathelaw14_great.f
  repeat' with_reducible first
   | exact lathelaw14_count.mono _ _ _ _ _ _
   | exact LeO.refl _
   | exact LeO.none _
   | refine LeO.ite ?_ ?_
   | refine LeO.bind ?_ (fun _ => ?_)
set_option maxHeartbeats 8000000 in
set_option maxRecDepth 100000 in
theorem lathelaw14_great.calls (k : Nat) (a0_0 : Int) (A0_1 : Option Addr) (c0_1 : Nat) (l0_1 : List Int) (A0_2 : Option Addr) (c0_2 : Nat) (l0_2 : List Int) (A0_3 : Option Addr) (c0_3 : Nat) (l0_3 : List (S26)) (r : Bool) (w : World) (hr0_1 : Kd.C (Kd.int .u32) w A0_1 l0_1.length l0_1) (hc0_1 : l0_1.length ≤ c0_1) (hr0_2 : Kd.C (Kd.int .i64) w A0_2 l0_2.length l0_2) (hc0_2 : l0_2.length ≤ c0_2) (hr0_3 : Kd.C k26 w A0_3 l0_3.length l0_3) (hc0_3 : l0_3.length ≤ c0_3) (h : lathelaw14_great.f k a0_0 l0_1 l0_2 l0_3 = some r) :
    Calls Tryd.prog 10 #[.agg #[.int .i64 a0_0, .slice A0_1 l0_1.length c0_1, .slice A0_2 l0_2.length c0_2, .slice A0_3 l0_3.length c0_3]] w fun e w' => e = .returned (.bool r) ∧ Below w.heap.size w w' := by
  have hu26 := Tryd.underlying26
  have HR0_1 := Aside0.mk hr0_1
  have HC0_1 := Aside0.mk hc0_1
  clear hr0_1 hc0_1
  have HR0_2 := Aside0.mk hr0_2
  have HC0_2 := Aside0.mk hc0_2
  clear hr0_2 hc0_2
  have HR0_3 := Aside0.mk hr0_3
  have HC0_3 := Aside0.mk hc0_3
  clear hr0_3 hc0_3
  have HB := Aside0.mk (Below.refl w.heap.size w)
  have H : ((lathelaw14_count.f k a0_0 l0_1 l0_2 l0_3 9000).bind fun t105 => (some (decide (t105 > 9000)))) = some r := h
  clear h
  replace H := Option.bind_eq_some_iff.mp H
  obtain ⟨t105, A20, H⟩ := H
  have A2 := Aside0.mk A20
  clear A20
  obtain rfl := Option.some.inj H
  go_enter Tryd.func10, Tryd.ntmps10
  go_wp2_with (first | ((with_reducible refine gate_dst (N := 1) rfl ?_); refine box_event ?hg (N := 1) ?hd (cs := #[.int .i64 a0_0, .slice A0_1 l0_1.length c0_1, .slice A0_2 l0_2.length c0_2, .slice A0_3 l0_3.length c0_3]) (t := 26) ?hr ?_; (case hd => rfl); (case hg => rfl); (case hr => first | (go_simp; done) | (go_simp; rfl)); intro gb104 hg w3 hbox hb; have BK104 := Aside0.mk (hbox); have GW104 := bsz (w := w) hg; have GE104 := bsz (w := w) hg; replace HB := bst hb; clear hb hbox hg; obtain ⟨_, _, _, _, _, _, _, _⟩ := bx4 BK104.out) | ((with_reducible refine gate_callee (f := 28) rfl ?_); refine gC (some 4) Tryd.func28 (lathelaw14_count.calls k a0_0 _ _ l0_1 _ _ l0_2 _ _ l0_3 9000 t105 _ (cb HR0_1) HC0_1.out (cb HR0_2) HC0_2.out (cb HR0_3) HC0_3.out A2.out) (fun w5 hb => ?_); clear A2; replace BK104 := bks BK104 hb; replace HB := bst hb; (try clear hb)))
  go_ret
  exact fin_

/-! ### sched_may: function 34 (given) -/
def sched_may.f (k : Nat) (a0_0 : Int) (l0_1 : List Int) (l0_2 : List Int) (l0_3 : List (S26)) : Option (Bool) := Mag.mayF k a0_0 l0_1 l0_2 l0_3
theorem sched_may.mono : ∀ a0 a1 a2 a3 k, LeO (sched_may.f k a0 a1 a2 a3) (sched_may.f (k + 1) a0 a1 a2 a3) := fun a0 a1 a2 a3 k => Mag.may_mono k a0 a1 a2 a3
theorem sched_may.calls (k : Nat) (a0_0 : Int) (A0_1 : Option Addr) (c0_1 : Nat) (l0_1 : List Int) (A0_2 : Option Addr) (c0_2 : Nat) (l0_2 : List Int) (A0_3 : Option Addr) (c0_3 : Nat) (l0_3 : List (S26)) (r : Bool) (w : World) (hr0_1 : Kd.C (Kd.int .u32) w A0_1 l0_1.length l0_1) (hc0_1 : l0_1.length ≤ c0_1) (hr0_2 : Kd.C (Kd.int .i64) w A0_2 l0_2.length l0_2) (hc0_2 : l0_2.length ≤ c0_2) (hr0_3 : Kd.C k26 w A0_3 l0_3.length l0_3) (hc0_3 : l0_3.length ≤ c0_3) (h : sched_may.f k a0_0 l0_1 l0_2 l0_3 = some r) :
    Calls Tryd.prog 34 #[.agg #[.int .i64 a0_0, .slice A0_1 l0_1.length c0_1, .slice A0_2 l0_2.length c0_2, .slice A0_3 l0_3.length c0_3]] w fun e w' => e = .returned (.bool r) ∧ Below w.heap.size w w' := Mag.may_any k a0_0 A0_1 c0_1 l0_1 A0_2 c0_2 l0_2 A0_3 c0_3 l0_3 r w hr0_1 hc0_1 hr0_2 hc0_2 hr0_3 hc0_3 h

/-! ### sched_Check: function 15 -/
def sched_Check.f (k : Nat) (a0_0 : Int) (l0_1 : List Int) (l0_2 : List Int) (l0_3 : List (S26)) : Option (Int) := (sched_counts.f k a0_0 l0_1 l0_2 l0_3).bind fun bt115 => (if bt115.1 > 64 then (some 1) else (if bt115.2 > 4096 then (some 1) else ((sched_may.f k a0_0 l0_1 l0_2 l0_3).bind fun t117 => (if t117 = true then (some 0) else (some 1)))))
theorem sched_Check.mono : ∀ a0 a1 a2 a3 k, LeO (sched_Check.f k a0 a1 a2 a3) (sched_Check.f (k + 1) a0 a1 a2 a3) := by
  intro a0 a1 a2 a3 k
  unfold sched_Check.f
  repeat' with_reducible first
   | exact sched_counts.mono _ _ _ _ _
   | exact sched_may.mono _ _ _ _ _
   | exact LeO.refl _
   | exact LeO.none _
   | refine LeO.ite ?_ ?_
   | refine LeO.bind ?_ (fun _ => ?_)
set_option maxHeartbeats 8000000 in
set_option maxRecDepth 100000 in
theorem sched_Check.calls (k : Nat) (a0_0 : Int) (A0_1 : Option Addr) (c0_1 : Nat) (l0_1 : List Int) (A0_2 : Option Addr) (c0_2 : Nat) (l0_2 : List Int) (A0_3 : Option Addr) (c0_3 : Nat) (l0_3 : List (S26)) (r : Int) (w : World) (hr0_1 : Kd.C (Kd.int .u32) w A0_1 l0_1.length l0_1) (hc0_1 : l0_1.length ≤ c0_1) (hr0_2 : Kd.C (Kd.int .i64) w A0_2 l0_2.length l0_2) (hc0_2 : l0_2.length ≤ c0_2) (hr0_3 : Kd.C k26 w A0_3 l0_3.length l0_3) (hc0_3 : l0_3.length ≤ c0_3) (h : sched_Check.f k a0_0 l0_1 l0_2 l0_3 = some r) :
    Calls Tryd.prog 15 #[.agg #[.int .i64 a0_0, .slice A0_1 l0_1.length c0_1, .slice A0_2 l0_2.length c0_2, .slice A0_3 l0_3.length c0_3]] w fun e w' => e = .returned (.int .i64 r) ∧ Below w.heap.size w w' := by
  have hu26 := Tryd.underlying26
  have HR0_1 := Aside0.mk hr0_1
  have HC0_1 := Aside0.mk hc0_1
  clear hr0_1 hc0_1
  have HR0_2 := Aside0.mk hr0_2
  have HC0_2 := Aside0.mk hc0_2
  clear hr0_2 hc0_2
  have HR0_3 := Aside0.mk hr0_3
  have HC0_3 := Aside0.mk hc0_3
  clear hr0_3 hc0_3
  have HB := Aside0.mk (Below.refl w.heap.size w)
  have H : ((sched_counts.f k a0_0 l0_1 l0_2 l0_3).bind fun bt115 => (if bt115.1 > 64 then (some 1) else (if bt115.2 > 4096 then (some 1) else ((sched_may.f k a0_0 l0_1 l0_2 l0_3).bind fun t117 => (if t117 = true then (some 0) else (some 1)))))) = some r := h
  clear h
  replace H := Option.bind_eq_some_iff.mp H
  obtain ⟨⟨t115, t116⟩, A20, H⟩ := H
  have A2 := Aside0.mk A20
  clear A20
  by_cases c3 : t115 > 64
  · rw [if_pos c3] at H
    have c3b0 : decide (64 < t115) = true := decide_eq_true c3
    clear c3
    obtain rfl := Option.some.inj H
    go_enter Tryd.func15, Tryd.ntmps15
    go_wp2_with (first | ((with_reducible refine gate_dst (N := 1) rfl ?_); refine box_event ?hg (N := 1) ?hd (cs := #[.int .i64 a0_0, .slice A0_1 l0_1.length c0_1, .slice A0_2 l0_2.length c0_2, .slice A0_3 l0_3.length c0_3]) (t := 26) ?hr ?_; (case hd => rfl); (case hg => rfl); (case hr => first | (go_simp; done) | (go_simp; rfl)); intro gb114 hg w4 hbox hb; have BK114 := Aside0.mk (hbox); have GW114 := bsz (w := w) hg; have GE114 := bsz (w := w) hg; replace HB := bst hb; clear hb hbox hg; obtain ⟨_, _, _, _, _, _, _, _⟩ := bx4 BK114.out) | ((with_reducible refine gate_callee (f := 33) rfl ?_); refine gC (some 7) Tryd.func33 (sched_counts.calls k a0_0 _ _ l0_1 _ _ l0_2 _ _ l0_3 t115 t116 _ (cb HR0_1) HC0_1.out (cb HR0_2) HC0_2.out (cb HR0_3) HC0_3.out A2.out) (fun w6 hb => ?_); clear A2; replace BK114 := bks BK114 hb; replace HB := bst hb; (try clear hb)))
    go_ret
    exact fin_
  · rw [if_neg c3] at H
    have c3b0 : decide (64 < t115) = false := decide_eq_false c3
    clear c3
    by_cases c7 : t116 > 4096
    · rw [if_pos c7] at H
      have c7b0 : decide (4096 < t116) = true := decide_eq_true c7
      clear c7
      obtain rfl := Option.some.inj H
      go_enter Tryd.func15, Tryd.ntmps15
      go_wp2_with (first | ((with_reducible refine gate_dst (N := 1) rfl ?_); refine box_event ?hg (N := 1) ?hd (cs := #[.int .i64 a0_0, .slice A0_1 l0_1.length c0_1, .slice A0_2 l0_2.length c0_2, .slice A0_3 l0_3.length c0_3]) (t := 26) ?hr ?_; (case hd => rfl); (case hg => rfl); (case hr => first | (go_simp; done) | (go_simp; rfl)); intro gb114 hg w8 hbox hb; have BK114 := Aside0.mk (hbox); have GW114 := bsz (w := w) hg; have GE114 := bsz (w := w) hg; replace HB := bst hb; clear hb hbox hg; obtain ⟨_, _, _, _, _, _, _, _⟩ := bx4 BK114.out) | ((with_reducible refine gate_callee (f := 33) rfl ?_); refine gC (some 7) Tryd.func33 (sched_counts.calls k a0_0 _ _ l0_1 _ _ l0_2 _ _ l0_3 t115 t116 _ (cb HR0_1) HC0_1.out (cb HR0_2) HC0_2.out (cb HR0_3) HC0_3.out A2.out) (fun w10 hb => ?_); clear A2; replace BK114 := bks BK114 hb; replace HB := bst hb; (try clear hb)))
      go_ret
      exact fin_
    · rw [if_neg c7] at H
      have c7b0 : decide (4096 < t116) = false := decide_eq_false c7
      clear c7
      replace H := Option.bind_eq_some_iff.mp H
      obtain ⟨t117, A110, H⟩ := H
      have A11 := Aside0.mk A110
      clear A110
      by_cases c12 : t117 = true
      · subst c12
        rw [if_pos rfl] at H
        obtain rfl := Option.some.inj H
        go_enter Tryd.func15, Tryd.ntmps15
        go_wp2_with (first | ((with_reducible refine gate_dst (N := 1) rfl ?_); refine box_event ?hg (N := 1) ?hd (cs := #[.int .i64 a0_0, .slice A0_1 l0_1.length c0_1, .slice A0_2 l0_2.length c0_2, .slice A0_3 l0_3.length c0_3]) (t := 26) ?hr ?_; (case hd => rfl); (case hg => rfl); (case hr => first | (go_simp; done) | (go_simp; rfl)); intro gb114 hg w13 hbox hb; have BK114 := Aside0.mk (hbox); have GW114 := bsz (w := w) hg; have GE114 := bsz (w := w) hg; replace HB := bst hb; clear hb hbox hg; obtain ⟨_, _, _, _, _, _, _, _⟩ := bx4 BK114.out) | ((with_reducible refine gate_callee (f := 33) rfl ?_); refine gC (some 7) Tryd.func33 (sched_counts.calls k a0_0 _ _ l0_1 _ _ l0_2 _ _ l0_3 t115 t116 _ (cb HR0_1) HC0_1.out (cb HR0_2) HC0_2.out (cb HR0_3) HC0_3.out A2.out) (fun w15 hb => ?_); clear A2; replace BK114 := bks BK114 hb; replace HB := bst hb; (try clear hb); obtain ⟨_, _, _, _, _, _, _, _⟩ := bx4 BK114.out) | (go_at_call 34; (with_reducible refine (sched_may.calls k a0_0 _ _ l0_1 _ _ l0_2 _ _ l0_3 true _ (cb HR0_1) HC0_1.out (cb HR0_2) HC0_2.out (cb HR0_3) HC0_3.out A11.out).mono ?_); clear A11; rintro e w17 ⟨rfl, hb⟩; replace BK114 := bks BK114 hb; replace HB := bst hb; (try clear hb)))
        go_ret
        exact fin_
      · replace c12 := Bool.eq_false_iff.mpr c12
        subst c12
        rw [if_neg (show ¬ (false = true) by decide)] at H
        obtain rfl := Option.some.inj H
        go_enter Tryd.func15, Tryd.ntmps15
        go_wp2_with (first | ((with_reducible refine gate_dst (N := 1) rfl ?_); refine box_event ?hg (N := 1) ?hd (cs := #[.int .i64 a0_0, .slice A0_1 l0_1.length c0_1, .slice A0_2 l0_2.length c0_2, .slice A0_3 l0_3.length c0_3]) (t := 26) ?hr ?_; (case hd => rfl); (case hg => rfl); (case hr => first | (go_simp; done) | (go_simp; rfl)); intro gb114 hg w18 hbox hb; have BK114 := Aside0.mk (hbox); have GW114 := bsz (w := w) hg; have GE114 := bsz (w := w) hg; replace HB := bst hb; clear hb hbox hg; obtain ⟨_, _, _, _, _, _, _, _⟩ := bx4 BK114.out) | ((with_reducible refine gate_callee (f := 33) rfl ?_); refine gC (some 7) Tryd.func33 (sched_counts.calls k a0_0 _ _ l0_1 _ _ l0_2 _ _ l0_3 t115 t116 _ (cb HR0_1) HC0_1.out (cb HR0_2) HC0_2.out (cb HR0_3) HC0_3.out A2.out) (fun w20 hb => ?_); clear A2; replace BK114 := bks BK114 hb; replace HB := bst hb; (try clear hb); obtain ⟨_, _, _, _, _, _, _, _⟩ := bx4 BK114.out) | (go_at_call 34; (with_reducible refine (sched_may.calls k a0_0 _ _ l0_1 _ _ l0_2 _ _ l0_3 false _ (cb HR0_1) HC0_1.out (cb HR0_2) HC0_2.out (cb HR0_3) HC0_3.out A11.out).mono ?_); clear A11; rintro e w22 ⟨rfl, hb⟩; replace BK114 := bks BK114 hb; replace HB := bst hb; (try clear hb)))
        go_ret
        exact fin_

/-! ### sched_Wave: function 18 (given) -/
def sched_Wave.f (a0 : Int) : Option (Int) := some (Wav.wv a0 : Nat)
theorem sched_Wave.calls (a0 : Int) (r : Int) (w : World) (hl_ : Wav.Lies w) (h : sched_Wave.f a0 = some r) :
    Calls Tryd.prog 18 #[.int .u32 a0] w fun e w' => e = .returned (.int .u32 r) ∧ Drawn0 w w' := by
  have h := Option.some.inj h
  subst h
  exact Wav.Wave a0 w hl_

end Go.Proofs.YtmfladkimmnccaaDoor.PW
