/- The functions of the program that a statement reaches, as plain functions, and that the machine's calls do what these say. No condition. (Printed by a program.) -/
import Derived.Test.YtmfladkimmnccaaDoorPWx0
import Derived.Test.YtmfladkimmnccaaDoorWal
namespace Go.Proofs.YtmfladkimmnccaaDoor.PW
open Go.RowKit Go.Proofs.YtmfladkimmnccaaDoorW.PrintWords Go.Proofs.YtmfladkimmnccaaDoorW.PrintLast Go.Proofs.YtmfladkimmnccaaDoorW.PrintMore Go.Proofs.YtmfladkimmnccaaDoor.Sht
attribute [local go_sem] max2_int min2_int max_two min_two max_three min_three max_four min_four   -- for this text's walks alone
set_option linter.unusedVariables false
set_option linter.unusedSimpArgs false

/-! ### lathelaw14_same: function 17 -/
mutual
def lathelaw14_same.j0 : Nat → Bool → Int → List Int → List Int → List (S26) → Int → List Int → List Int → List (S26) → Option (Bool)
 | 0, _, _, _, _, _, _, _, _, _ => none
 | k + 1, x39, x538000, x538001, x538002, x538003, x539000, x539001, x539002, x539003 => if x39 = true then (some false) else (lathelaw14_same.l0 k 0 x538000 x538001 x538002 x538003 x539000 x539001 x539002 x539003)
def lathelaw14_same.l0 : Nat → Int → Int → List Int → List Int → List (S26) → Int → List Int → List Int → List (S26) → Option (Bool)
 | 0, _, _, _, _, _, _, _, _, _ => none
 | k + 1, x5, x538000, x538001, x538002, x538003, x539000, x539001, x539002, x539003 => if x5 < (x538001.length : Int) then (if 0 ≤ x5 then (if x5 < (x539001.length : Int) then (if (rd x538001 x5) = (rd x539001 x5) then (lathelaw14_same.l0 k (wrap64 (x5 + 1)) x538000 x538001 x538002 x538003 x539000 x539001 x539002 x539003) else (some false)) else (none)) else (none)) else (lathelaw14_same.l1 k 0 x538000 x538001 x538002 x538003 x539000 x539001 x539002 x539003)
def lathelaw14_same.l1 : Nat → Int → Int → List Int → List Int → List (S26) → Int → List Int → List Int → List (S26) → Option (Bool)
 | 0, _, _, _, _, _, _, _, _, _ => none
 | k + 1, x6, x538000, x538001, x538002, x538003, x539000, x539001, x539002, x539003 => if x6 < (x538002.length : Int) then (if 0 ≤ x6 then (if x6 < (x539002.length : Int) then (if (rd x538002 x6) = (rd x539002 x6) then (lathelaw14_same.l1 k (wrap64 (x6 + 1)) x538000 x538001 x538002 x538003 x539000 x539001 x539002 x539003) else (some false)) else (none)) else (none)) else (lathelaw14_same.l2 k 0 x538000 x538001 x538002 x538003 x539000 x539001 x539002 x539003)
def lathelaw14_same.l2 : Nat → Int → Int → List Int → List Int → List (S26) → Int → List Int → List Int → List (S26) → Option (Bool)
 | 0, _, _, _, _, _, _, _, _, _ => none
 | k + 1, x7, x538000, x538001, x538002, x538003, x539000, x539001, x539002, x539003 => if x7 < (x538003.length : Int) then (if 0 ≤ x7 then (if x7 < (x539003.length : Int) then ((lathelaw14_same.f k ((rd_T26 x538003 x7).f0) ((rd_T26 x538003 x7).f1) ((rd_T26 x538003 x7).f2) ((rd_T26 x538003 x7).f3) ((rd_T26 x539003 x7).f0) ((rd_T26 x539003 x7).f1) ((rd_T26 x539003 x7).f2) ((rd_T26 x539003 x7).f3)).bind fun t545 => (if t545 = true then (lathelaw14_same.l2 k (wrap64 (x7 + 1)) x538000 x538001 x538002 x538003 x539000 x539001 x539002 x539003) else (some false))) else (none)) else (none)) else (some true)
def lathelaw14_same.f : Nat → Int → List Int → List Int → List (S26) → Int → List Int → List Int → List (S26) → Option (Bool)
 | 0, _, _, _, _, _, _, _, _ => none
 | k + 1, a0_0, l0_1, l0_2, l0_3, a1_0, l1_1, l1_2, l1_3 => if a0_0 = a1_0 then (if (l0_1.length : Int) = (l1_1.length : Int) then (if (l0_2.length : Int) = (l1_2.length : Int) then (lathelaw14_same.j0 k ((l0_3.length : Int) != (l1_3.length : Int)) a0_0 l0_1 l0_2 l0_3 a1_0 l1_1 l1_2 l1_3) else (lathelaw14_same.j0 k true a0_0 l0_1 l0_2 l0_3 a1_0 l1_1 l1_2 l1_3)) else (lathelaw14_same.j0 k true a0_0 l0_1 l0_2 l0_3 a1_0 l1_1 l1_2 l1_3)) else (lathelaw14_same.j0 k true a0_0 l0_1 l0_2 l0_3 a1_0 l1_1 l1_2 l1_3)
end
theorem lathelaw14_same.mono_l : ∀ k, (∀ y0 y1 y2 y3 y4 y5 y6 y7, LeO (lathelaw14_same.f k y0 y1 y2 y3 y4 y5 y6 y7) (lathelaw14_same.f (k + 1) y0 y1 y2 y3 y4 y5 y6 y7)) ∧ (∀ y0 y1 y2 y3 y4 y5 y6 y7 y8, LeO (lathelaw14_same.j0 k y0 y1 y2 y3 y4 y5 y6 y7 y8) (lathelaw14_same.j0 (k + 1) y0 y1 y2 y3 y4 y5 y6 y7 y8)) ∧ (∀ y0 y1 y2 y3 y4 y5 y6 y7 y8, LeO (lathelaw14_same.l0 k y0 y1 y2 y3 y4 y5 y6 y7 y8) (lathelaw14_same.l0 (k + 1) y0 y1 y2 y3 y4 y5 y6 y7 y8)) ∧ (∀ y0 y1 y2 y3 y4 y5 y6 y7 y8, LeO (lathelaw14_same.l1 k y0 y1 y2 y3 y4 y5 y6 y7 y8) (lathelaw14_same.l1 (k + 1) y0 y1 y2 y3 y4 y5 y6 y7 y8)) ∧ (∀ y0 y1 y2 y3 y4 y5 y6 y7 y8, LeO (lathelaw14_same.l2 k y0 y1 y2 y3 y4 y5 y6 y7 y8) (lathelaw14_same.l2 (k + 1) y0 y1 y2 y3 y4 y5 y6 y7 y8))
 | 0 => ⟨fun _ _ _ _ _ _ _ _ r h => by simp [lathelaw14_same.f] at h, fun _ _ _ _ _ _ _ _ _ r h => by simp [lathelaw14_same.j0] at h, fun _ _ _ _ _ _ _ _ _ r h => by simp [lathelaw14_same.l0] at h, fun _ _ _ _ _ _ _ _ _ r h => by simp [lathelaw14_same.l1] at h, fun _ _ _ _ _ _ _ _ _ r h => by simp [lathelaw14_same.l2] at h⟩
 | k + 1 => by
  obtain ⟨ih0, ih1, ih2, ih3, ih4⟩ := lathelaw14_same.mono_l k
  refine ⟨?_, ?_, ?_, ?_, ?_⟩ <;> intros <;> (first | unfold lathelaw14_same.f | unfold lathelaw14_same.j0 | unfold lathelaw14_same.l0 | unfold lathelaw14_same.l1 | unfold lathelaw14_same.l2)
  all_goals repeat' with_reducible first
   | exact ih0 _ _ _ _ _ _ _ _
   | exact ih1 _ _ _ _ _ _ _ _ _
   | exact ih2 _ _ _ _ _ _ _ _ _
   | exact ih3 _ _ _ _ _ _ _ _ _
   | exact ih4 _ _ _ _ _ _ _ _ _
   | exact LeO.refl _
   | exact LeO.none _
   | refine LeO.ite ?_ ?_
   | refine LeO.bind ?_ (fun _ => ?_)
theorem lathelaw14_same.mono : ∀ a0 a1 a2 a3 a4 a5 a6 a7 k, LeO (lathelaw14_same.f k a0 a1 a2 a3 a4 a5 a6 a7) (lathelaw14_same.f (k + 1) a0 a1 a2 a3 a4 a5 a6 a7) := by
 intro a0 a1 a2 a3 a4 a5 a6 a7 k
 obtain ⟨ih0, ih1, ih2, ih3, ih4⟩ := lathelaw14_same.mono_l k
 exact ih0 a0 a1 a2 a3 a4 a5 a6 a7
def lathelaw14_same.T6 : Bool × List (List Nat × List Nat) := (true, [([], []), ([0], [0]), ([], []), ([1, 2], [1, 2]), ([3], [3]), ([], []), ([5], [5]), ([], []), ([6, 7], [6, 7]), ([8], [8]), ([4, 9], [4, 9])])
def lathelaw14_same.B6 : List Nat := [0, 1, 0, 7, 15, 0, 32, 0, 224, 480, 1023]
theorem lathelaw14_same.tab6 : rtab .any (opsOf Tryd.f17 6) = lathelaw14_same.T6 := by kernel_rfl
theorem lathelaw14_same.bits6 : waitsOk lathelaw14_same.T6.2 lathelaw14_same.B6 = true := by kernel_rfl
def lathelaw14_same.T11 : Bool × List (List Nat × List Nat) := (true, [([], []), ([0], [0]), ([], []), ([1, 2], [1, 2]), ([3], [3]), ([], []), ([5], [5]), ([], []), ([6, 7], [6, 7]), ([8], [8]), ([4, 9], [4, 9])])
def lathelaw14_same.B11 : List Nat := [0, 1, 0, 7, 15, 0, 32, 0, 224, 480, 1023]
theorem lathelaw14_same.tab11 : rtab .any (opsOf Tryd.f17 11) = lathelaw14_same.T11 := by kernel_rfl
theorem lathelaw14_same.bits11 : waitsOk lathelaw14_same.T11.2 lathelaw14_same.B11 = true := by kernel_rfl
def lathelaw14_same.T16 : Bool × List (List Nat × List Nat) := (true, [([], []), ([0], [0]), ([], []), ([1, 2], [1, 2]), ([3], [3]), ([], []), ([5], [5]), ([], []), ([6, 7], [6, 7]), ([8], [8]), ([4, 9], [4, 9]), ([10], [10])])
def lathelaw14_same.B16 : List Nat := [0, 1, 0, 7, 15, 0, 32, 0, 224, 480, 1023, 2047]
theorem lathelaw14_same.tab16 : rtab .any (opsOf Tryd.f17 16) = lathelaw14_same.T16 := by kernel_rfl
theorem lathelaw14_same.bits16 : waitsOk lathelaw14_same.T16.2 lathelaw14_same.B16 = true := by kernel_rfl
set_option maxHeartbeats 8000000 in
set_option maxRecDepth 100000 in
theorem lathelaw14_same.calls (k : Nat) : ∀ (a0_0 : Int) (A0_1 : Option Addr) (c0_1 : Nat) (l0_1 : List Int) (A0_2 : Option Addr) (c0_2 : Nat) (l0_2 : List Int) (A0_3 : Option Addr) (c0_3 : Nat) (l0_3 : List (S26)) (a1_0 : Int) (A1_1 : Option Addr) (c1_1 : Nat) (l1_1 : List Int) (A1_2 : Option Addr) (c1_2 : Nat) (l1_2 : List Int) (A1_3 : Option Addr) (c1_3 : Nat) (l1_3 : List (S26)) (r : Bool) (w : World) (hr0_1 : Kd.C (Kd.int .u32) w A0_1 l0_1.length l0_1) (hc0_1 : l0_1.length ≤ c0_1) (hr0_2 : Kd.C (Kd.int .i64) w A0_2 l0_2.length l0_2) (hc0_2 : l0_2.length ≤ c0_2) (hr0_3 : Kd.C k26 w A0_3 l0_3.length l0_3) (hc0_3 : l0_3.length ≤ c0_3) (hr1_1 : Kd.C (Kd.int .u32) w A1_1 l1_1.length l1_1) (hc1_1 : l1_1.length ≤ c1_1) (hr1_2 : Kd.C (Kd.int .i64) w A1_2 l1_2.length l1_2) (hc1_2 : l1_2.length ≤ c1_2) (hr1_3 : Kd.C k26 w A1_3 l1_3.length l1_3) (hc1_3 : l1_3.length ≤ c1_3) (h : lathelaw14_same.f k a0_0 l0_1 l0_2 l0_3 a1_0 l1_1 l1_2 l1_3 = some r),
  Calls Tryd.prog 17 #[.agg #[.int .i64 a0_0, .slice A0_1 l0_1.length c0_1, .slice A0_2 l0_2.length c0_2, .slice A0_3 l0_3.length c0_3], .agg #[.int .i64 a1_0, .slice A1_1 l1_1.length c1_1, .slice A1_2 l1_2.length c1_2, .slice A1_3 l1_3.length c1_3]] w fun e w' => e = .returned (.bool r) ∧ Below w.heap.size w w' := by
 induction k using Nat.strongRecOn with
 | _ k ih =>
 intro a0_0 A0_1 c0_1 l0_1 A0_2 c0_2 l0_2 A0_3 c0_3 l0_3 a1_0 A1_1 c1_1 l1_1 A1_2 c1_2 l1_2 A1_3 c1_3 l1_3 r w hr0_1 hc0_1 hr0_2 hc0_2 hr0_3 hc0_3 hr1_1 hc1_1 hr1_2 hc1_2 hr1_3 hc1_3 h
 cases k with
 | zero => exact absurd h (by simp [lathelaw14_same.f])
 | succ k =>
 simp only [lathelaw14_same.f] at h
 have hu26 := Tryd.underlying26
 have HR0_1 := Aside0.mk hr0_1
 have HC0_1 := Aside0.mk hc0_1
 clear hr0_1 hc0_1
 have HR0_2 := Aside0.mk hr0_2
 have HC0_2 := Aside0.mk hc0_2
 clear hr0_2 hc0_2
 have HR0_3 := Aside0.mk hr0_3
 have HC0_3 := Aside0.mk hc0_3
 clear hr0_3 hc0_3
 have HR1_1 := Aside0.mk hr1_1
 have HC1_1 := Aside0.mk hc1_1
 clear hr1_1 hc1_1
 have HR1_2 := Aside0.mk hr1_2
 have HC1_2 := Aside0.mk hc1_2
 clear hr1_2 hc1_2
 have HR1_3 := Aside0.mk hr1_3
 have HC1_3 := Aside0.mk hc1_3
 clear hr1_3 hc1_3
 have HB := Aside0.mk (Below.refl w.heap.size w)
 have H : (if a0_0 = a1_0 then (if (l0_1.length : Int) = (l1_1.length : Int) then (if (l0_2.length : Int) = (l1_2.length : Int) then (lathelaw14_same.j0 k ((l0_3.length : Int) != (l1_3.length : Int)) a0_0 l0_1 l0_2 l0_3 a1_0 l1_1 l1_2 l1_3) else (lathelaw14_same.j0 k true a0_0 l0_1 l0_2 l0_3 a1_0 l1_1 l1_2 l1_3)) else (lathelaw14_same.j0 k true a0_0 l0_1 l0_2 l0_3 a1_0 l1_1 l1_2 l1_3)) else (lathelaw14_same.j0 k true a0_0 l0_1 l0_2 l0_3 a1_0 l1_1 l1_2 l1_3)) = some r := h
 clear h
 have HC3 := Aside0.mk H
 clear H
 go_enter Tryd.func17, Tryd.ntmps17
 go_upto_region 1 with (first | ((with_reducible refine gate_dst (N := 2) rfl ?_); (try (refine gate_guard (by rfl) ?_; dsimp only)); refine box_event ?hg (N := 2) ?hd (cs := #[.int .i64 a0_0, .slice A0_1 l0_1.length c0_1, .slice A0_2 l0_2.length c0_2, .slice A0_3 l0_3.length c0_3]) (t := 26) ?hr ?_; (case hd => rfl); (case hg => rfl); (case hr => first | (go_simp; done) | (go_simp; rfl)); intro gb537 hg w4 hbox hb; have BK537 := Aside0.mk (hbox); have GW537 := bsz (w := w) hg; have GE537 := bsz (w := w) hg; replace HB := bst hb; clear hb hbox hg) | ((with_reducible refine gate_dst (N := 3) rfl ?_); (try (refine gate_guard (by rfl) ?_; dsimp only)); refine box_event ?hg (N := 3) ?hd (cs := #[.int .i64 a1_0, .slice A1_1 l1_1.length c1_1, .slice A1_2 l1_2.length c1_2, .slice A1_3 l1_3.length c1_3]) (t := 26) ?hr ?_; (case hd => rfl); (case hg => rfl); (case hr => first | (go_simp; done) | (go_simp; rfl)); intro gb538 hg w5 hbox hb; have BK538 := Aside0.mk (hbox); have GW538 := bsz (w := w) hg; have GE538 := bsz (w := w) hg; have NB537_538 := Aside0.mk ((by rw [hg]; exact Nat.ne_of_lt (blk_lt (g := gb537) (o := .cells #[.int .i64 a0_0, .slice A0_1 l0_1.length c0_1, .slice A0_2 l0_2.length c0_2, .slice A0_3 l0_3.length c0_3] 26 (0, 0)) bkk) : gb537 ≠ gb538)); have NB538_537 := Aside0.mk ((by rw [hg]; exact Nat.ne_of_gt (blk_lt (g := gb537) (o := .cells #[.int .i64 a0_0, .slice A0_1 l0_1.length c0_1, .slice A0_2 l0_2.length c0_2, .slice A0_3 l0_3.length c0_3] 26 (0, 0)) bkk) : gb538 ≠ gb537)); replace BK537 := bks BK537 hb; replace HB := bst hb; clear hb hbox hg))
 go_cut [39] (fun v39 wc => ∃ (kq : Nat) (x39_2 : Bool), v39 = .bool x39_2 ∧ Aside0 (lathelaw14_same.j0 kq x39_2 a0_0 l0_1 l0_2 l0_3 a1_0 l1_1 l1_2 l1_3 = some r) ∧ Aside0 (kq ≤ k) ∧ Aside0 (wc.heap[gb537]? = some (.cells #[.int .i64 a0_0, (.slice A0_1 l0_1.length c0_1), (.slice A0_2 l0_2.length c0_2), (.slice A0_3 l0_3.length c0_3)] 26 (0, 0))) ∧ Aside0 (wc.heap[gb538]? = some (.cells #[.int .i64 a1_0, (.slice A1_1 l1_1.length c1_1), (.slice A1_2 l1_2.length c1_2), (.slice A1_3 l1_3.length c1_3)] 26 (0, 0))) ∧ Aside0 (Below w.heap.size w wc))
 case first =>
  have H := HC3.out
  clear HC3
  by_cases c6 : a0_0 = a1_0
  rotate_left
  ·rw [if_neg c6] at H
   have c6b0 : (a0_0 == a1_0) = false := beq_eq_false_iff_ne.mpr c6
   have c6b1 : (a0_0 != a1_0) = true := bne_iff_ne.mpr c6
   (first | rw [c6b0] | (simp only [i64_w, i32_w]; rw [c6b0]) | skip)
   have H' := Aside0.mk H
   clear H
   have hnb18 := NB537_538.out
   have hnc18 := NB538_537.out
   obtain ⟨_, _, _, _, _, _, _, _⟩ := bx4 BK537.out
   obtain ⟨_, _, _, _, _, _, _, _⟩ := bx4 BK538.out
   go_wp2
   go_meet
   case rel => exact ⟨_, (true), id_, H', ⟨by first | omega | exact Nat.le_refl _⟩, ⟨bkk⟩, ⟨bkk⟩, ⟨hbb⟩⟩
  rw [if_pos c6] at H
  have c6b0 : (a0_0 == a1_0) = true := beq_iff_eq.mpr c6
  have c6b1 : (a0_0 != a1_0) = false := bne_eq_false_iff_eq.mpr c6
  clear c6
  (first | rw [c6b0] | (simp only [i64_w, i32_w]; rw [c6b0]) | skip)
  by_cases c7 : (l0_1.length : Int) = (l1_1.length : Int)
  rotate_left
  ·rw [if_neg c7] at H
   have c7b0 : ((l0_1.length : Int) == (l1_1.length : Int)) = false := beq_eq_false_iff_ne.mpr c7
   have c7b1 : ((l0_1.length : Int) != (l1_1.length : Int)) = true := bne_iff_ne.mpr c7
   have c7b2 : (l0_1.length == l1_1.length) = false := by first | simpa using c7 | (simp at c7 ⊢; omega)
   have H' := Aside0.mk H
   clear H
   have hnb15 := NB537_538.out
   have hnc15 := NB538_537.out
   obtain ⟨_, _, _, _, _, _, _, _⟩ := bx4 BK537.out
   obtain ⟨_, _, _, _, _, _, _, _⟩ := bx4 BK538.out
   go_wp2
   go_meet
   case rel => exact ⟨_, (true), id_, H', ⟨by first | omega | exact Nat.le_refl _⟩, ⟨bkk⟩, ⟨bkk⟩, ⟨hbb⟩⟩
  rw [if_pos c7] at H
  have c7b0 : ((l0_1.length : Int) == (l1_1.length : Int)) = true := beq_iff_eq.mpr c7
  have c7b1 : ((l0_1.length : Int) != (l1_1.length : Int)) = false := bne_eq_false_iff_eq.mpr c7
  have c7b2 : (l0_1.length == l1_1.length) = true := by first | simpa using c7 | (simp at c7 ⊢; omega)
  clear c7
  by_cases c8 : (l0_2.length : Int) = (l1_2.length : Int)
  ·rw [if_pos c8] at H
   have c8b0 : ((l0_2.length : Int) == (l1_2.length : Int)) = true := beq_iff_eq.mpr c8
   have c8b1 : ((l0_2.length : Int) != (l1_2.length : Int)) = false := bne_eq_false_iff_eq.mpr c8
   have c8b2 : (l0_2.length == l1_2.length) = true := by first | simpa using c8 | (simp at c8 ⊢; omega)
   clear c8
   have H' := Aside0.mk H
   clear H
   have hnb9 := NB537_538.out
   have hnc9 := NB538_537.out
   obtain ⟨_, _, _, _, _, _, _, _⟩ := bx4 BK537.out
   obtain ⟨_, _, _, _, _, _, _, _⟩ := bx4 BK538.out
   go_wp2
   go_meet
   case rel => exact ⟨_, (((l0_3.length : Int) != (l1_3.length : Int))), id_, H', ⟨by first | omega | exact Nat.le_refl _⟩, ⟨bkk⟩, ⟨bkk⟩, ⟨hbb⟩⟩
  rw [if_neg c8] at H
  have c8b0 : ((l0_2.length : Int) == (l1_2.length : Int)) = false := beq_eq_false_iff_ne.mpr c8
  have c8b1 : ((l0_2.length : Int) != (l1_2.length : Int)) = true := bne_iff_ne.mpr c8
  have c8b2 : (l0_2.length == l1_2.length) = false := by first | simpa using c8 | (simp at c8 ⊢; omega)
  have H' := Aside0.mk H
  clear H
  have hnb12 := NB537_538.out
  have hnc12 := NB538_537.out
  obtain ⟨_, _, _, _, _, _, _, _⟩ := bx4 BK537.out
  obtain ⟨_, _, _, _, _, _, _, _⟩ := bx4 BK538.out
  go_wp2
  go_meet
  case rel => exact ⟨_, (true), id_, H', ⟨by first | omega | exact Nat.le_refl _⟩, ⟨bkk⟩, ⟨bkk⟩, ⟨hbb⟩⟩
 case rest =>
  clear HC3
  obtain ⟨kq, x39_2, rfl, HA, HJ2, BK537, BK538, HB⟩ := hcut
  cases kq with
  | zero => exact absurd HA.out (by simp [lathelaw14_same.j0])
  | succ kj2 =>
   have H := HA.out
   clear HA
   simp only [lathelaw14_same.j0] at H
   by_cases c21 : x39_2 = true
   ·subst c21
    rw [if_pos rfl] at H
    obtain rfl := Option.some.inj H
    go_wp2
    go_ret
    exact fin_
   replace c21 := Bool.eq_false_iff.mpr c21
   subst c21
   rw [if_neg (show ¬ (false = true) by decide)] at H
   have H' := Aside0.mk H
   clear H
   go_wp2
   go_loopg [5] kj2 (fun kq v5 w' => ∃ (x5_2 : Int), v5 = .int .i64 x5_2 ∧ Aside0 (lathelaw14_same.l0 kq x5_2 a0_0 l0_1 l0_2 l0_3 a1_0 l1_1 l1_2 l1_3 = some r) ∧ Aside0 (kq ≤ kj2) ∧ Aside0 (w'.heap[gb537]? = some (.cells #[.int .i64 a0_0, (.slice A0_1 l0_1.length c0_1), (.slice A0_2 l0_2.length c0_2), (.slice A0_3 l0_3.length c0_3)] 26 (0, 0))) ∧ Aside0 (w'.heap[gb538]? = some (.cells #[.int .i64 a1_0, (.slice A1_1 l1_1.length c1_1), (.slice A1_2 l1_2.length c1_2), (.slice A1_3 l1_3.length c1_3)] 26 (0, 0))) ∧ Aside0 (Below w.heap.size w w'))
   case atStart => exact ⟨(0), id_, H', ⟨Nat.le_refl _⟩, ⟨bkk⟩, ⟨bkk⟩, ⟨hbb⟩⟩
   case round =>
    clear H'
    obtain ⟨x5_2, rfl, HA, HK2, BK537, BK538, HB⟩ := hrel
    cases gk with
    | zero => exact absurd HA.out (by simp [lathelaw14_same.l0])
    | succ k2 =>
     have H := HA.out
     clear HA
     simp only [lathelaw14_same.l0] at H
     by_cases c22 : x5_2 < (l0_1.length : Int)
     ·rw [if_pos c22] at H
      have c22b0 := decide_eq_true c22
      clear c22
      by_cases c23 : 0 ≤ x5_2
      rotate_left
      ·rw [if_neg c23] at H
       exact absurd H (by simp)
      rw [if_pos c23] at H
      have c23b0 := decide_eq_true c23
      clear c23
      by_cases c24 : x5_2 < (l1_1.length : Int)
      rotate_left
      ·rw [if_neg c24] at H
       exact absurd H (by simp)
      rw [if_pos c24] at H
      have c24b0 := decide_eq_true c24
      clear c24
      by_cases c25 : (rd l0_1 x5_2) = (rd l1_1 x5_2)
      rotate_left
      ·rw [if_neg c25] at H
       have c25b0 : ((rd l0_1 x5_2) == (rd l1_1 x5_2)) = false := beq_eq_false_iff_ne.mpr c25
       have c25b1 : ((rd l0_1 x5_2) != (rd l1_1 x5_2)) = true := bne_iff_ne.mpr c25
       obtain rfl := Option.some.inj H
       have hnb29 := NB537_538.out
       have hnc29 := NB538_537.out
       obtain ⟨_, _, _, _, _, _, _, _⟩ := bx4 BK537.out
       try go_wp2
       replace BK537 := Aside0.mk (blk_drew BK537.out)
       replace BK538 := Aside0.mk (blk_drew BK538.out)
       replace HB := Aside0.mk (below_drew1 HB.out)
       have p539 : 0 ≤ (x5_2 : Int) := of_decide_eq_true as_
       have q539 : x5_2 < (l0_1.length : Int) := of_decide_eq_true as_
       obtain ⟨ad539, e539, hx539_0⟩ := Kd.at_int HR0_1.out x5_2 p539 q539
       have hw539_0 := hx539_0
       cases e539
       replace hx539_0 := upc hx539_0
       replace p539 := eq_true p539
       replace q539 := eq_true q539
       have p540 : 0 ≤ (x5_2 : Int) := of_decide_eq_true as_
       have q540 : x5_2 < (l1_1.length : Int) := of_decide_eq_true as_
       obtain ⟨ad540, e540, hx540_0⟩ := Kd.at_int HR1_1.out x5_2 p540 q540
       have hw540_0 := hx540_0
       cases e540
       replace hx540_0 := upc hx540_0
       replace p540 := eq_true p540
       replace q540 := eq_true q540
       refine st (S := fun w' => w'.cell? ⟨gb537, 0, none⟩ = some (.int .i64 a0_0) ∧ w'.cell? ⟨gb537, 1, none⟩ = some (.slice (some ad539) l0_1.length c0_1) ∧ w'.cell? ⟨gb537, 2, none⟩ = some (.slice A0_2 l0_2.length c0_2) ∧ w'.cell? ⟨gb537, 3, none⟩ = some (.slice A0_3 l0_3.length c0_3) ∧ w'.cell? ⟨gb538, 0, none⟩ = some (.int .i64 a1_0) ∧ w'.cell? ⟨gb538, 1, none⟩ = some (.slice (some ad540) l1_1.length c1_1) ∧ w'.cell? ⟨gb538, 2, none⟩ = some (.slice A1_2 l1_2.length c1_2) ∧ w'.cell? ⟨gb538, 3, none⟩ = some (.slice A1_3 l1_3.length c1_3) ∧ w'.cell? (ad539.add (x5_2).toNat) = some (.int .u32 (rd l0_1 x5_2)) ∧ w'.cell? (ad540.add (x5_2).toNat) = some (.int .u32 (rd l1_1 x5_2))) (ds := []) (fun hHeld => ?_); refine with_tabW lathelaw14_same.tab6 lathelaw14_same.bits6 (fun HT_ HW_ => ?_)
       generalize wr.drew = w31 at BK537 BK538 HB hx539_0 hx540_0 hHeld ⊢
       refine pu (i := 0) (N := some 47) ?_
       refine pu (i := 2) (N := some 49) ?_
       refine pu (i := 5) (N := some 52) ?_
       refine pu (i := 7) (N := some 54) ?_
       refine tk (i := 1) (N := some 48) ?_
       refine pu (i := 3) (N := some 50) ?_
       refine tk (i := 4) (N := some 51) ?_
       refine tk (i := 6) (N := some 53) ?_
       refine pu (i := 8) (N := some 55) ?_
       refine tk (i := 9) (N := some 56) ?_
       refine pu (i := 10) (N := some 57) ?_
       refine done_ (done_of HT_.out (by kernel_rfl)) ?_
       try go_wp2
       go_ret
       exact fin_
      rw [if_pos c25] at H
      have c25b0 : ((rd l0_1 x5_2) == (rd l1_1 x5_2)) = true := beq_iff_eq.mpr c25
      have c25b1 : ((rd l0_1 x5_2) != (rd l1_1 x5_2)) = false := bne_eq_false_iff_eq.mpr c25
      clear c25
      have H' := Aside0.mk H
      clear H
      have hnb26 := NB537_538.out
      have hnc26 := NB538_537.out
      obtain ⟨_, _, _, _, _, _, _, _⟩ := bx4 BK537.out
      try go_wp2
      replace BK537 := Aside0.mk (blk_drew BK537.out)
      replace BK538 := Aside0.mk (blk_drew BK538.out)
      replace HB := Aside0.mk (below_drew1 HB.out)
      have p539 : 0 ≤ (x5_2 : Int) := of_decide_eq_true as_
      have q539 : x5_2 < (l0_1.length : Int) := of_decide_eq_true as_
      obtain ⟨ad539, e539, hx539_0⟩ := Kd.at_int HR0_1.out x5_2 p539 q539
      have hw539_0 := hx539_0
      cases e539
      replace hx539_0 := upc hx539_0
      replace p539 := eq_true p539
      replace q539 := eq_true q539
      have p540 : 0 ≤ (x5_2 : Int) := of_decide_eq_true as_
      have q540 : x5_2 < (l1_1.length : Int) := of_decide_eq_true as_
      obtain ⟨ad540, e540, hx540_0⟩ := Kd.at_int HR1_1.out x5_2 p540 q540
      have hw540_0 := hx540_0
      cases e540
      replace hx540_0 := upc hx540_0
      replace p540 := eq_true p540
      replace q540 := eq_true q540
      refine st (S := fun w' => w'.cell? ⟨gb537, 0, none⟩ = some (.int .i64 a0_0) ∧ w'.cell? ⟨gb537, 1, none⟩ = some (.slice (some ad539) l0_1.length c0_1) ∧ w'.cell? ⟨gb537, 2, none⟩ = some (.slice A0_2 l0_2.length c0_2) ∧ w'.cell? ⟨gb537, 3, none⟩ = some (.slice A0_3 l0_3.length c0_3) ∧ w'.cell? ⟨gb538, 0, none⟩ = some (.int .i64 a1_0) ∧ w'.cell? ⟨gb538, 1, none⟩ = some (.slice (some ad540) l1_1.length c1_1) ∧ w'.cell? ⟨gb538, 2, none⟩ = some (.slice A1_2 l1_2.length c1_2) ∧ w'.cell? ⟨gb538, 3, none⟩ = some (.slice A1_3 l1_3.length c1_3) ∧ w'.cell? (ad539.add (x5_2).toNat) = some (.int .u32 (rd l0_1 x5_2)) ∧ w'.cell? (ad540.add (x5_2).toNat) = some (.int .u32 (rd l1_1 x5_2))) (ds := []) (fun hHeld => ?_); refine with_tabW lathelaw14_same.tab6 lathelaw14_same.bits6 (fun HT_ HW_ => ?_)
      generalize wr.drew = w28 at BK537 BK538 HB hx539_0 hx540_0 hHeld ⊢
      refine pu (i := 0) (N := some 47) ?_
      refine pu (i := 2) (N := some 49) ?_
      refine pu (i := 5) (N := some 52) ?_
      refine pu (i := 7) (N := some 54) ?_
      refine tk (i := 1) (N := some 48) ?_
      refine pu (i := 3) (N := some 50) ?_
      refine tk (i := 4) (N := some 51) ?_
      refine tk (i := 6) (N := some 53) ?_
      refine pu (i := 8) (N := some 55) ?_
      refine tk (i := 9) (N := some 56) ?_
      refine pu (i := 10) (N := some 57) ?_
      refine done_ (done_of HT_.out (by kernel_rfl)) ?_
      try go_wp2
      go_roundg k2
      case measure => have := HJ2.out; have := HK2.out; omega
      case rel => exact ⟨(wrap64 (x5_2 + 1)), id_, H', ⟨by have := HJ2.out; have := HK2.out; omega⟩, ⟨bkk⟩, ⟨bkk⟩, ⟨hbb⟩⟩
     rw [if_neg c22] at H
     have c22b0 := decide_eq_false c22
     clear c22
     have H' := Aside0.mk H
     clear H
     have hnb32 := NB537_538.out
     have hnc32 := NB538_537.out
     obtain ⟨_, _, _, _, _, _, _, _⟩ := bx4 BK537.out
     go_wp2
     go_loopg [6] k2 (fun kq v6 w' => ∃ (x6_3 : Int), v6 = .int .i64 x6_3 ∧ Aside0 (lathelaw14_same.l1 kq x6_3 a0_0 l0_1 l0_2 l0_3 a1_0 l1_1 l1_2 l1_3 = some r) ∧ Aside0 (kq ≤ k2) ∧ Aside0 (w'.heap[gb537]? = some (.cells #[.int .i64 a0_0, (.slice A0_1 l0_1.length c0_1), (.slice A0_2 l0_2.length c0_2), (.slice A0_3 l0_3.length c0_3)] 26 (0, 0))) ∧ Aside0 (w'.heap[gb538]? = some (.cells #[.int .i64 a1_0, (.slice A1_1 l1_1.length c1_1), (.slice A1_2 l1_2.length c1_2), (.slice A1_3 l1_3.length c1_3)] 26 (0, 0))) ∧ Aside0 (Below w.heap.size w w'))
     case atStart => exact ⟨(0), id_, H', ⟨Nat.le_refl _⟩, ⟨bkk⟩, ⟨bkk⟩, ⟨hbb⟩⟩
     case round =>
      clear H'
      clear c22b0
      obtain ⟨x6_3, rfl, HA, HK3, BK537, BK538, HB⟩ := hrel
      cases gk with
      | zero => exact absurd HA.out (by simp [lathelaw14_same.l1])
      | succ k3 =>
       have H := HA.out
       clear HA
       simp only [lathelaw14_same.l1] at H
       by_cases c34 : x6_3 < (l0_2.length : Int)
       ·rw [if_pos c34] at H
        have c34b0 := decide_eq_true c34
        clear c34
        by_cases c35 : 0 ≤ x6_3
        rotate_left
        ·rw [if_neg c35] at H
         exact absurd H (by simp)
        rw [if_pos c35] at H
        have c35b0 := decide_eq_true c35
        clear c35
        by_cases c36 : x6_3 < (l1_2.length : Int)
        rotate_left
        ·rw [if_neg c36] at H
         exact absurd H (by simp)
        rw [if_pos c36] at H
        have c36b0 := decide_eq_true c36
        clear c36
        by_cases c37 : (rd l0_2 x6_3) = (rd l1_2 x6_3)
        rotate_left
        ·rw [if_neg c37] at H
         have c37b0 : ((rd l0_2 x6_3) == (rd l1_2 x6_3)) = false := beq_eq_false_iff_ne.mpr c37
         have c37b1 : ((rd l0_2 x6_3) != (rd l1_2 x6_3)) = true := bne_iff_ne.mpr c37
         obtain rfl := Option.some.inj H
         have hnb41 := NB537_538.out
         have hnc41 := NB538_537.out
         obtain ⟨_, _, _, _, _, _, _, _⟩ := bx4 BK537.out
         try go_wp2
         replace BK537 := Aside0.mk (blk_drew BK537.out)
         replace BK538 := Aside0.mk (blk_drew BK538.out)
         replace HB := Aside0.mk (below_drew1 HB.out)
         have p541 : 0 ≤ (x6_3 : Int) := of_decide_eq_true as_
         have q541 : x6_3 < (l0_2.length : Int) := of_decide_eq_true as_
         obtain ⟨ad541, e541, hx541_0⟩ := Kd.at_int HR0_2.out x6_3 p541 q541
         have hw541_0 := hx541_0
         cases e541
         replace hx541_0 := upc hx541_0
         replace p541 := eq_true p541
         replace q541 := eq_true q541
         have p542 : 0 ≤ (x6_3 : Int) := of_decide_eq_true as_
         have q542 : x6_3 < (l1_2.length : Int) := of_decide_eq_true as_
         obtain ⟨ad542, e542, hx542_0⟩ := Kd.at_int HR1_2.out x6_3 p542 q542
         have hw542_0 := hx542_0
         cases e542
         replace hx542_0 := upc hx542_0
         replace p542 := eq_true p542
         replace q542 := eq_true q542
         refine st (S := fun w' => w'.cell? ⟨gb537, 0, none⟩ = some (.int .i64 a0_0) ∧ w'.cell? ⟨gb537, 1, none⟩ = some (.slice A0_1 l0_1.length c0_1) ∧ w'.cell? ⟨gb537, 2, none⟩ = some (.slice (some ad541) l0_2.length c0_2) ∧ w'.cell? ⟨gb537, 3, none⟩ = some (.slice A0_3 l0_3.length c0_3) ∧ w'.cell? ⟨gb538, 0, none⟩ = some (.int .i64 a1_0) ∧ w'.cell? ⟨gb538, 1, none⟩ = some (.slice A1_1 l1_1.length c1_1) ∧ w'.cell? ⟨gb538, 2, none⟩ = some (.slice (some ad542) l1_2.length c1_2) ∧ w'.cell? ⟨gb538, 3, none⟩ = some (.slice A1_3 l1_3.length c1_3) ∧ w'.cell? (ad541.add (x6_3).toNat) = some (.int .i64 (rd l0_2 x6_3)) ∧ w'.cell? (ad542.add (x6_3).toNat) = some (.int .i64 (rd l1_2 x6_3))) (ds := []) (fun hHeld => ?_); refine with_tabW lathelaw14_same.tab11 lathelaw14_same.bits11 (fun HT_ HW_ => ?_)
         generalize wr.drew = w43 at BK537 BK538 HB hx541_0 hx542_0 hHeld ⊢
         refine pu (i := 0) (N := some 65) ?_
         refine pu (i := 2) (N := some 67) ?_
         refine pu (i := 5) (N := some 70) ?_
         refine pu (i := 7) (N := some 72) ?_
         refine tk (i := 1) (N := some 66) ?_
         refine pu (i := 3) (N := some 68) ?_
         refine tk (i := 4) (N := some 69) ?_
         refine tk (i := 6) (N := some 71) ?_
         refine pu (i := 8) (N := some 73) ?_
         refine tk (i := 9) (N := some 74) ?_
         refine pu (i := 10) (N := some 75) ?_
         refine done_ (done_of HT_.out (by kernel_rfl)) ?_
         try go_wp2
         go_ret
         exact fin_
        rw [if_pos c37] at H
        have c37b0 : ((rd l0_2 x6_3) == (rd l1_2 x6_3)) = true := beq_iff_eq.mpr c37
        have c37b1 : ((rd l0_2 x6_3) != (rd l1_2 x6_3)) = false := bne_eq_false_iff_eq.mpr c37
        clear c37
        have H' := Aside0.mk H
        clear H
        have hnb38 := NB537_538.out
        have hnc38 := NB538_537.out
        obtain ⟨_, _, _, _, _, _, _, _⟩ := bx4 BK537.out
        try go_wp2
        replace BK537 := Aside0.mk (blk_drew BK537.out)
        replace BK538 := Aside0.mk (blk_drew BK538.out)
        replace HB := Aside0.mk (below_drew1 HB.out)
        have p541 : 0 ≤ (x6_3 : Int) := of_decide_eq_true as_
        have q541 : x6_3 < (l0_2.length : Int) := of_decide_eq_true as_
        obtain ⟨ad541, e541, hx541_0⟩ := Kd.at_int HR0_2.out x6_3 p541 q541
        have hw541_0 := hx541_0
        cases e541
        replace hx541_0 := upc hx541_0
        replace p541 := eq_true p541
        replace q541 := eq_true q541
        have p542 : 0 ≤ (x6_3 : Int) := of_decide_eq_true as_
        have q542 : x6_3 < (l1_2.length : Int) := of_decide_eq_true as_
        obtain ⟨ad542, e542, hx542_0⟩ := Kd.at_int HR1_2.out x6_3 p542 q542
        have hw542_0 := hx542_0
        cases e542
        replace hx542_0 := upc hx542_0
        replace p542 := eq_true p542
        replace q542 := eq_true q542
        refine st (S := fun w' => w'.cell? ⟨gb537, 0, none⟩ = some (.int .i64 a0_0) ∧ w'.cell? ⟨gb537, 1, none⟩ = some (.slice A0_1 l0_1.length c0_1) ∧ w'.cell? ⟨gb537, 2, none⟩ = some (.slice (some ad541) l0_2.length c0_2) ∧ w'.cell? ⟨gb537, 3, none⟩ = some (.slice A0_3 l0_3.length c0_3) ∧ w'.cell? ⟨gb538, 0, none⟩ = some (.int .i64 a1_0) ∧ w'.cell? ⟨gb538, 1, none⟩ = some (.slice A1_1 l1_1.length c1_1) ∧ w'.cell? ⟨gb538, 2, none⟩ = some (.slice (some ad542) l1_2.length c1_2) ∧ w'.cell? ⟨gb538, 3, none⟩ = some (.slice A1_3 l1_3.length c1_3) ∧ w'.cell? (ad541.add (x6_3).toNat) = some (.int .i64 (rd l0_2 x6_3)) ∧ w'.cell? (ad542.add (x6_3).toNat) = some (.int .i64 (rd l1_2 x6_3))) (ds := []) (fun hHeld => ?_); refine with_tabW lathelaw14_same.tab11 lathelaw14_same.bits11 (fun HT_ HW_ => ?_)
        generalize wr.drew = w40 at BK537 BK538 HB hx541_0 hx542_0 hHeld ⊢
        refine pu (i := 0) (N := some 65) ?_
        refine pu (i := 2) (N := some 67) ?_
        refine pu (i := 5) (N := some 70) ?_
        refine pu (i := 7) (N := some 72) ?_
        refine tk (i := 1) (N := some 66) ?_
        refine pu (i := 3) (N := some 68) ?_
        refine tk (i := 4) (N := some 69) ?_
        refine tk (i := 6) (N := some 71) ?_
        refine pu (i := 8) (N := some 73) ?_
        refine tk (i := 9) (N := some 74) ?_
        refine pu (i := 10) (N := some 75) ?_
        refine done_ (done_of HT_.out (by kernel_rfl)) ?_
        try go_wp2
        go_roundg k3
        case measure => have := HJ2.out; have := HK2.out; have := HK3.out; omega
        case rel => exact ⟨(wrap64 (x6_3 + 1)), id_, H', ⟨by have := HJ2.out; have := HK2.out; have := HK3.out; omega⟩, ⟨bkk⟩, ⟨bkk⟩, ⟨hbb⟩⟩
       rw [if_neg c34] at H
       have c34b0 := decide_eq_false c34
       clear c34
       have H' := Aside0.mk H
       clear H
       have hnb44 := NB537_538.out
       have hnc44 := NB538_537.out
       obtain ⟨_, _, _, _, _, _, _, _⟩ := bx4 BK537.out
       go_wp2
       go_loopg [7] k3 (fun kq v7 w' => ∃ (x7_4 : Int), v7 = .int .i64 x7_4 ∧ Aside0 (lathelaw14_same.l2 kq x7_4 a0_0 l0_1 l0_2 l0_3 a1_0 l1_1 l1_2 l1_3 = some r) ∧ Aside0 (kq ≤ k3) ∧ Aside0 (w'.heap[gb537]? = some (.cells #[.int .i64 a0_0, (.slice A0_1 l0_1.length c0_1), (.slice A0_2 l0_2.length c0_2), (.slice A0_3 l0_3.length c0_3)] 26 (0, 0))) ∧ Aside0 (w'.heap[gb538]? = some (.cells #[.int .i64 a1_0, (.slice A1_1 l1_1.length c1_1), (.slice A1_2 l1_2.length c1_2), (.slice A1_3 l1_3.length c1_3)] 26 (0, 0))) ∧ Aside0 (Below w.heap.size w w'))
       case atStart => exact ⟨(0), id_, H', ⟨Nat.le_refl _⟩, ⟨bkk⟩, ⟨bkk⟩, ⟨hbb⟩⟩
       case round =>
        clear H'
        clear c34b0
        obtain ⟨x7_4, rfl, HA, HK4, BK537, BK538, HB⟩ := hrel
        cases gk with
        | zero => exact absurd HA.out (by simp [lathelaw14_same.l2])
        | succ k4 =>
         have H := HA.out
         clear HA
         simp only [lathelaw14_same.l2] at H
         by_cases c46 : x7_4 < (l0_3.length : Int)
         rotate_left
         ·rw [if_neg c46] at H
          have c46b0 := decide_eq_false c46
          clear c46
          obtain rfl := Option.some.inj H
          have hnb59 := NB537_538.out
          have hnc59 := NB538_537.out
          obtain ⟨_, _, _, _, _, _, _, _⟩ := bx4 BK537.out
          go_wp2
          go_ret
          exact fin_
         rw [if_pos c46] at H
         have c46b0 := decide_eq_true c46
         clear c46
         by_cases c47 : 0 ≤ x7_4
         rotate_left
         ·rw [if_neg c47] at H
          exact absurd H (by simp)
         rw [if_pos c47] at H
         have c47b0 := decide_eq_true c47
         clear c47
         by_cases c48 : x7_4 < (l1_3.length : Int)
         rotate_left
         ·rw [if_neg c48] at H
          exact absurd H (by simp)
         rw [if_pos c48] at H
         have c48b0 := decide_eq_true c48
         clear c48
         replace H := Option.bind_eq_some_iff.mp H
         obtain ⟨t545, A490, H⟩ := H
         have A49 := Aside0.mk A490
         clear A490
         by_cases c50 : t545 = true
         ·subst c50
          rw [if_pos rfl] at H
          have H' := Aside0.mk H
          clear H
          have hnb51 := NB537_538.out
          have hnc51 := NB538_537.out
          obtain ⟨_, _, _, _, _, _, _, _⟩ := bx4 BK537.out
          try go_wp2
          replace BK537 := Aside0.mk (blk_drew BK537.out)
          replace BK538 := Aside0.mk (blk_drew BK538.out)
          replace HB := Aside0.mk (below_drew1 HB.out)
          have p543 : 0 ≤ (x7_4 : Int) := of_decide_eq_true as_
          have q543 : x7_4 < (l0_3.length : Int) := of_decide_eq_true as_
          obtain ⟨ad543, A543_1, c543_1, A543_2, c543_2, A543_3, c543_3, e543, hx543_0, hx543_1, hx543_2, hx543_3, hl543_1, hi543_1, hl543_2, hi543_2, hl543_3, hi543_3⟩ := at_T26 HR0_3.out x7_4 p543 q543
          have hw543_3 := hx543_3
          have hw543_2 := hx543_2
          have hw543_1 := hx543_1
          have hw543_0 := hx543_0
          cases e543
          replace hx543_0 := upc hx543_0
          replace hx543_1 := upc hx543_1
          replace hx543_2 := upc hx543_2
          replace hx543_3 := upc hx543_3
          have HR543_1 := Aside0.mk hi543_1
          have HC543_1 := Aside0.mk hl543_1
          clear hi543_1 hl543_1
          have HR543_2 := Aside0.mk hi543_2
          have HC543_2 := Aside0.mk hl543_2
          clear hi543_2 hl543_2
          have HR543_3 := Aside0.mk hi543_3
          have HC543_3 := Aside0.mk hl543_3
          clear hi543_3 hl543_3
          replace p543 := eq_true p543
          replace q543 := eq_true q543
          have p544 : 0 ≤ (x7_4 : Int) := of_decide_eq_true as_
          have q544 : x7_4 < (l1_3.length : Int) := of_decide_eq_true as_
          obtain ⟨ad544, A544_1, c544_1, A544_2, c544_2, A544_3, c544_3, e544, hx544_0, hx544_1, hx544_2, hx544_3, hl544_1, hi544_1, hl544_2, hi544_2, hl544_3, hi544_3⟩ := at_T26 HR1_3.out x7_4 p544 q544
          have hw544_3 := hx544_3
          have hw544_2 := hx544_2
          have hw544_1 := hx544_1
          have hw544_0 := hx544_0
          cases e544
          replace hx544_0 := upc hx544_0
          replace hx544_1 := upc hx544_1
          replace hx544_2 := upc hx544_2
          replace hx544_3 := upc hx544_3
          have HR544_1 := Aside0.mk hi544_1
          have HC544_1 := Aside0.mk hl544_1
          clear hi544_1 hl544_1
          have HR544_2 := Aside0.mk hi544_2
          have HC544_2 := Aside0.mk hl544_2
          clear hi544_2 hl544_2
          have HR544_3 := Aside0.mk hi544_3
          have HC544_3 := Aside0.mk hl544_3
          clear hi544_3 hl544_3
          replace p544 := eq_true p544
          replace q544 := eq_true q544
          refine st (S := fun w' => w'.cell? ⟨gb537, 0, none⟩ = some (.int .i64 a0_0) ∧ w'.cell? ⟨gb537, 1, none⟩ = some (.slice A0_1 l0_1.length c0_1) ∧ w'.cell? ⟨gb537, 2, none⟩ = some (.slice A0_2 l0_2.length c0_2) ∧ w'.cell? ⟨gb537, 3, none⟩ = some (.slice (some ad543) l0_3.length c0_3) ∧ w'.cell? ⟨gb538, 0, none⟩ = some (.int .i64 a1_0) ∧ w'.cell? ⟨gb538, 1, none⟩ = some (.slice A1_1 l1_1.length c1_1) ∧ w'.cell? ⟨gb538, 2, none⟩ = some (.slice A1_2 l1_2.length c1_2) ∧ w'.cell? ⟨gb538, 3, none⟩ = some (.slice (some ad544) l1_3.length c1_3) ∧ w'.cell? (ad543.add ((x7_4).toNat * 4)) = some (.int .i64 ((rd_T26 l0_3 x7_4).f0)) ∧ w'.cell? ⟨(ad543.add ((x7_4).toNat * 4)).block, (ad543.add ((x7_4).toNat * 4)).off + 1, none⟩ = some (.slice A543_1 ((rd_T26 l0_3 x7_4).f1).length c543_1) ∧ w'.cell? ⟨(ad543.add ((x7_4).toNat * 4)).block, (ad543.add ((x7_4).toNat * 4)).off + 2, none⟩ = some (.slice A543_2 ((rd_T26 l0_3 x7_4).f2).length c543_2) ∧ w'.cell? ⟨(ad543.add ((x7_4).toNat * 4)).block, (ad543.add ((x7_4).toNat * 4)).off + 3, none⟩ = some (.slice A543_3 ((rd_T26 l0_3 x7_4).f3).length c543_3) ∧ w'.cell? (ad544.add ((x7_4).toNat * 4)) = some (.int .i64 ((rd_T26 l1_3 x7_4).f0)) ∧ w'.cell? ⟨(ad544.add ((x7_4).toNat * 4)).block, (ad544.add ((x7_4).toNat * 4)).off + 1, none⟩ = some (.slice A544_1 ((rd_T26 l1_3 x7_4).f1).length c544_1) ∧ w'.cell? ⟨(ad544.add ((x7_4).toNat * 4)).block, (ad544.add ((x7_4).toNat * 4)).off + 2, none⟩ = some (.slice A544_2 ((rd_T26 l1_3 x7_4).f2).length c544_2) ∧ w'.cell? ⟨(ad544.add ((x7_4).toNat * 4)).block, (ad544.add ((x7_4).toNat * 4)).off + 3, none⟩ = some (.slice A544_3 ((rd_T26 l1_3 x7_4).f3).length c544_3)) (ds := []) (fun hHeld => ?_); refine with_tabW lathelaw14_same.tab16 lathelaw14_same.bits16 (fun HT_ HW_ => ?_)
          generalize wr.drew = w53 at BK537 BK538 HB HR543_1 HR543_2 HR543_3 HR544_1 HR544_2 HR544_3 hx543_0 hx543_1 hx543_2 hx543_3 hx544_0 hx544_1 hx544_2 hx544_3 hHeld ⊢
          refine pu (i := 0) (N := some 83) ?_
          refine pu (i := 2) (N := some 85) ?_
          refine pu (i := 5) (N := some 88) ?_
          refine pu (i := 7) (N := some 90) ?_
          refine tk (i := 1) (N := some 84) ?_
          refine pu (i := 3) (N := some 86) ?_
          refine tk (i := 4) (N := some 87) ?_
          refine tk (i := 6) (N := some 89) ?_
          refine pu (i := 8) (N := some 91) ?_
          refine tk (i := 9) (N := some 92) ?_
          refine on (i := 10) (N := some 93) (fun K hK => ?_)
          refine gB Tryd.func17 (ih k4 (by have := HJ2.out; have := HK2.out; have := HK3.out; have := HK4.out; omega) ((rd_T26 l0_3 x7_4).f0) _ _ ((rd_T26 l0_3 x7_4).f1) _ _ ((rd_T26 l0_3 x7_4).f2) _ _ ((rd_T26 l0_3 x7_4).f3) ((rd_T26 l1_3 x7_4).f0) _ _ ((rd_T26 l1_3 x7_4).f1) _ _ ((rd_T26 l1_3 x7_4).f2) _ _ ((rd_T26 l1_3 x7_4).f3) true _ (cb HR543_1) HC543_1.out (cb HR543_2) HC543_2.out (cb HR543_3) HC543_3.out (cb HR544_1) HC544_1.out (cb HR544_2) HC544_2.out (cb HR544_3) HC544_3.out A49.out) (fun w54 hb => ?_)
          replace BK537 := bks BK537 hb
          replace BK538 := bks BK538 hb
          replace HB := bst hb
          clear hb
          refine nx hK.out (fun hHeld => ?_)
          refine pu (i := 11) (N := some 94) ?_
          refine done_ (done_of HT_.out (by kernel_rfl)) ?_
          try go_wp2
          go_roundg k4
          case measure => have := HJ2.out; have := HK2.out; have := HK3.out; have := HK4.out; omega
          case rel => exact ⟨(wrap64 (x7_4 + 1)), id_, H', ⟨by have := HJ2.out; have := HK2.out; have := HK3.out; have := HK4.out; omega⟩, ⟨bkk⟩, ⟨bkk⟩, ⟨hbb⟩⟩
         replace c50 := Bool.eq_false_iff.mpr c50
         subst c50
         rw [if_neg (show ¬ (false = true) by decide)] at H
         obtain rfl := Option.some.inj H
         have hnb55 := NB537_538.out
         have hnc55 := NB538_537.out
         obtain ⟨_, _, _, _, _, _, _, _⟩ := bx4 BK537.out
         try go_wp2
         replace BK537 := Aside0.mk (blk_drew BK537.out)
         replace BK538 := Aside0.mk (blk_drew BK538.out)
         replace HB := Aside0.mk (below_drew1 HB.out)
         have p543 : 0 ≤ (x7_4 : Int) := of_decide_eq_true as_
         have q543 : x7_4 < (l0_3.length : Int) := of_decide_eq_true as_
         obtain ⟨ad543, A543_1, c543_1, A543_2, c543_2, A543_3, c543_3, e543, hx543_0, hx543_1, hx543_2, hx543_3, hl543_1, hi543_1, hl543_2, hi543_2, hl543_3, hi543_3⟩ := at_T26 HR0_3.out x7_4 p543 q543
         have hw543_3 := hx543_3
         have hw543_2 := hx543_2
         have hw543_1 := hx543_1
         have hw543_0 := hx543_0
         cases e543
         replace hx543_0 := upc hx543_0
         replace hx543_1 := upc hx543_1
         replace hx543_2 := upc hx543_2
         replace hx543_3 := upc hx543_3
         have HR543_1 := Aside0.mk hi543_1
         have HC543_1 := Aside0.mk hl543_1
         clear hi543_1 hl543_1
         have HR543_2 := Aside0.mk hi543_2
         have HC543_2 := Aside0.mk hl543_2
         clear hi543_2 hl543_2
         have HR543_3 := Aside0.mk hi543_3
         have HC543_3 := Aside0.mk hl543_3
         clear hi543_3 hl543_3
         replace p543 := eq_true p543
         replace q543 := eq_true q543
         have p544 : 0 ≤ (x7_4 : Int) := of_decide_eq_true as_
         have q544 : x7_4 < (l1_3.length : Int) := of_decide_eq_true as_
         obtain ⟨ad544, A544_1, c544_1, A544_2, c544_2, A544_3, c544_3, e544, hx544_0, hx544_1, hx544_2, hx544_3, hl544_1, hi544_1, hl544_2, hi544_2, hl544_3, hi544_3⟩ := at_T26 HR1_3.out x7_4 p544 q544
         have hw544_3 := hx544_3
         have hw544_2 := hx544_2
         have hw544_1 := hx544_1
         have hw544_0 := hx544_0
         cases e544
         replace hx544_0 := upc hx544_0
         replace hx544_1 := upc hx544_1
         replace hx544_2 := upc hx544_2
         replace hx544_3 := upc hx544_3
         have HR544_1 := Aside0.mk hi544_1
         have HC544_1 := Aside0.mk hl544_1
         clear hi544_1 hl544_1
         have HR544_2 := Aside0.mk hi544_2
         have HC544_2 := Aside0.mk hl544_2
         clear hi544_2 hl544_2
         have HR544_3 := Aside0.mk hi544_3
         have HC544_3 := Aside0.mk hl544_3
         clear hi544_3 hl544_3
         replace p544 := eq_true p544
         replace q544 := eq_true q544
         refine st (S := fun w' => w'.cell? ⟨gb537, 0, none⟩ = some (.int .i64 a0_0) ∧ w'.cell? ⟨gb537, 1, none⟩ = some (.slice A0_1 l0_1.length c0_1) ∧ w'.cell? ⟨gb537, 2, none⟩ = some (.slice A0_2 l0_2.length c0_2) ∧ w'.cell? ⟨gb537, 3, none⟩ = some (.slice (some ad543) l0_3.length c0_3) ∧ w'.cell? ⟨gb538, 0, none⟩ = some (.int .i64 a1_0) ∧ w'.cell? ⟨gb538, 1, none⟩ = some (.slice A1_1 l1_1.length c1_1) ∧ w'.cell? ⟨gb538, 2, none⟩ = some (.slice A1_2 l1_2.length c1_2) ∧ w'.cell? ⟨gb538, 3, none⟩ = some (.slice (some ad544) l1_3.length c1_3) ∧ w'.cell? (ad543.add ((x7_4).toNat * 4)) = some (.int .i64 ((rd_T26 l0_3 x7_4).f0)) ∧ w'.cell? ⟨(ad543.add ((x7_4).toNat * 4)).block, (ad543.add ((x7_4).toNat * 4)).off + 1, none⟩ = some (.slice A543_1 ((rd_T26 l0_3 x7_4).f1).length c543_1) ∧ w'.cell? ⟨(ad543.add ((x7_4).toNat * 4)).block, (ad543.add ((x7_4).toNat * 4)).off + 2, none⟩ = some (.slice A543_2 ((rd_T26 l0_3 x7_4).f2).length c543_2) ∧ w'.cell? ⟨(ad543.add ((x7_4).toNat * 4)).block, (ad543.add ((x7_4).toNat * 4)).off + 3, none⟩ = some (.slice A543_3 ((rd_T26 l0_3 x7_4).f3).length c543_3) ∧ w'.cell? (ad544.add ((x7_4).toNat * 4)) = some (.int .i64 ((rd_T26 l1_3 x7_4).f0)) ∧ w'.cell? ⟨(ad544.add ((x7_4).toNat * 4)).block, (ad544.add ((x7_4).toNat * 4)).off + 1, none⟩ = some (.slice A544_1 ((rd_T26 l1_3 x7_4).f1).length c544_1) ∧ w'.cell? ⟨(ad544.add ((x7_4).toNat * 4)).block, (ad544.add ((x7_4).toNat * 4)).off + 2, none⟩ = some (.slice A544_2 ((rd_T26 l1_3 x7_4).f2).length c544_2) ∧ w'.cell? ⟨(ad544.add ((x7_4).toNat * 4)).block, (ad544.add ((x7_4).toNat * 4)).off + 3, none⟩ = some (.slice A544_3 ((rd_T26 l1_3 x7_4).f3).length c544_3)) (ds := []) (fun hHeld => ?_); refine with_tabW lathelaw14_same.tab16 lathelaw14_same.bits16 (fun HT_ HW_ => ?_)
         generalize wr.drew = w57 at BK537 BK538 HB HR543_1 HR543_2 HR543_3 HR544_1 HR544_2 HR544_3 hx543_0 hx543_1 hx543_2 hx543_3 hx544_0 hx544_1 hx544_2 hx544_3 hHeld ⊢
         refine pu (i := 0) (N := some 83) ?_
         refine pu (i := 2) (N := some 85) ?_
         refine pu (i := 5) (N := some 88) ?_
         refine pu (i := 7) (N := some 90) ?_
         refine tk (i := 1) (N := some 84) ?_
         refine pu (i := 3) (N := some 86) ?_
         refine tk (i := 4) (N := some 87) ?_
         refine tk (i := 6) (N := some 89) ?_
         refine pu (i := 8) (N := some 91) ?_
         refine tk (i := 9) (N := some 92) ?_
         refine on (i := 10) (N := some 93) (fun K hK => ?_)
         refine gB Tryd.func17 (ih k4 (by have := HJ2.out; have := HK2.out; have := HK3.out; have := HK4.out; omega) ((rd_T26 l0_3 x7_4).f0) _ _ ((rd_T26 l0_3 x7_4).f1) _ _ ((rd_T26 l0_3 x7_4).f2) _ _ ((rd_T26 l0_3 x7_4).f3) ((rd_T26 l1_3 x7_4).f0) _ _ ((rd_T26 l1_3 x7_4).f1) _ _ ((rd_T26 l1_3 x7_4).f2) _ _ ((rd_T26 l1_3 x7_4).f3) false _ (cb HR543_1) HC543_1.out (cb HR543_2) HC543_2.out (cb HR543_3) HC543_3.out (cb HR544_1) HC544_1.out (cb HR544_2) HC544_2.out (cb HR544_3) HC544_3.out A49.out) (fun w58 hb => ?_)
         replace BK537 := bks BK537 hb
         replace BK538 := bks BK538 hb
         replace HB := bst hb
         clear hb
         refine nx hK.out (fun hHeld => ?_)
         refine pu (i := 11) (N := some 94) ?_
         refine done_ (done_of HT_.out (by kernel_rfl)) ?_
         try go_wp2
         go_ret
         exact fin_

end Go.Proofs.YtmfladkimmnccaaDoor.PW
