/- The functions of the program that a statement reaches, as plain functions, and that the machine's calls do what these say. No condition. (Printed by a program.) -/
import Derived.Test.YtcegmbplgghjnaaPFx0
import Derived.Test.YtcegmbplgghjnaaPFx13
import Derived.Test.YtcegmbplgghjnaaPFx22
import Derived.Test.YtcegmbplgghjnaaPFx23
import Derived.Test.YtcegmbplgghjnaaPFx24
namespace Go.Proofs.Ytcegmbplgghjnaa.PF
open Go.RowKit Go.Proofs.YtcegmbplgghjnaaW.PrintWords Go.Proofs.YtcegmbplgghjnaaW.PrintLast Go.Proofs.YtcegmbplgghjnaaW.PrintMore
attribute [local go_sem] max2_int min2_int max_two min_two max_three min_three max_four min_four   -- for this text's walks alone
set_option linter.unusedVariables false
set_option linter.unusedSimpArgs false

/-! ### lathelaw04_whole: function 28 -/
def lathelaw04_whole.f (k : Nat) (a0 : Int) (a1 : Int) : Option (Int × Int) := (latheref02_FromInt.f k a0).bind fun t573 => ((latheref02_FromInt.f k a1).bind fun t574 => (some ((t573) % 4294967296, (t574) % 4294967296)))
theorem lathelaw04_whole.mono : ∀ a0 a1 k, LeO (lathelaw04_whole.f k a0 a1) (lathelaw04_whole.f (k + 1) a0 a1) := by
  intro a0 a1 k
  unfold lathelaw04_whole.f
  repeat' first
      | (with_reducible exact latheref02_FromInt.mono _ _)
      | (with_reducible exact LeO.refl _)
      | (with_reducible exact LeO.none _)
      | (with_reducible refine LeO.ite ?_ ?_)
      | (with_reducible refine LeO.bind ?_ (fun _ => ?_))
      | exact latheref02_FromInt.mono _ _
      | exact LeO.none _
      | refine LeO.ite ?_ ?_
      | refine LeO.bind ?_ (fun _ => ?_)
set_option maxHeartbeats 8000000 in
set_option maxRecDepth 100000 in
theorem lathelaw04_whole.calls (k : Nat) (a0 : Int) (a1 : Int) (r1 : Int) (r2 : Int) (w : World) (h : lathelaw04_whole.f k a0 a1 = some (r1, r2)) :
    Calls Try.prog 28 #[.int .i64 a0, .int .i64 a1] w fun e w' => e = .returned (.agg #[.int .u32 r1, .int .u32 r2]) ∧ Below w.heap.size w w' := by
  have hu25 := Try.underlying25
  have HB := Aside0.mk (Below.refl w.heap.size w)
  have H : ((latheref02_FromInt.f k a0).bind fun t573 => ((latheref02_FromInt.f k a1).bind fun t574 => (some ((t573) % 4294967296, (t574) % 4294967296)))) = some (r1, r2) := h
  clear h
  replace H := Option.bind_eq_some_iff.mp H
  obtain ⟨t573, A30, H⟩ := H
  replace H : ((latheref02_FromInt.f k a1).bind fun t574 => (some ((t573) % 4294967296, (t574) % 4294967296))) = some (r1, r2) := H
  have A3 := Aside0.mk A30
  clear A30
  replace H := Option.bind_eq_some_iff.mp H
  obtain ⟨t574, A40, H⟩ := H
  replace H : (some ((t573) % 4294967296, (t574) % 4294967296)) = some (r1, r2) := H
  have A4 := Aside0.mk A40
  clear A40
  simp only [Option.some.injEq, Prod.mk.injEq] at H
  obtain ⟨rfl, rfl⟩ := H
  go_enter Try.func28, Try.ntmps28
  go_wp2_with (first | ((with_reducible refine gate_dst (N := 4) rfl ?_); refine box_event ?hg (N := 4) ?hd (cs := #[.int .u32 0, .int .u32 0]) (t := 25) ?hr ?_; (case hd => rfl); (case hg => rfl); (case hr => first | (go_simp; done) | (go_simp; rfl)); intro gb572 hg w5 hbox hb; have n0_ := Aside0.mk (below_step (by repeat (first | (with_reducible first | exact HB.out | apply below_alloc | apply pw_below_drewN | apply below_drew1) | exact HB.out)) hb); have n1_ := Aside0.mk (hbox); have n2_ := Aside0.mk ((by rw [hg]; exact (below_size (by repeat (first | (with_reducible first | exact HB.out | apply below_alloc | apply pw_below_drewN | apply below_drew1) | exact HB.out))) : w.heap.size ≤ gb572)); have n3_ := Aside0.mk ((by rw [hg]; exact (below_size (by repeat (first | (with_reducible first | exact HB.out | apply below_alloc | apply pw_below_drewN | apply below_drew1) | exact HB.out))) : w.heap.size ≤ gb572)); clear HB; have HB := n0_; have BK572 := n1_; have GW572 := n2_; have GE572 := n3_; clear n0_ n1_ n2_ n3_; clear hb hbox hg) | ((with_reducible refine gate_callee (f := 30) rfl ?_); refine goesL_ (some 6) rfl rfl Try.func30 (by kernel_rfl) rfl #[.int .i64 a0] rfl (by (try simp only [List.map_toArray, List.map_cons, List.map_nil]); first | done | rfl | (simp only [List.length_drop, List.length_take]; rfl)) ?_; (with_reducible refine (latheref02_FromInt.calls k a0 t573 _ A3.out).mono ?_); rintro e w6 ⟨rfl, hb⟩; refine ⟨_, rfl, ?_⟩; have n0_ := Aside0.mk (blk_below (g := gb572) (o := .cells #[.int .u32 0, .int .u32 0] 25 (0, 0)) (by (with_reducible repeat (first | refine blk_drewN ?_ _ | refine blk_drew ?_ | refine blk_alloc ?_ _)); exact BK572.out) hb); have n1_ := Aside0.mk (below_step (by repeat (first | (with_reducible first | exact HB.out | apply below_alloc | apply pw_below_drewN | apply below_drew1 | refine below_set ?_ GE572.out) | exact HB.out)) hb); clear BK572; clear HB; have BK572 := n0_; have HB := n1_; clear n0_ n1_; (try clear hb); (try clear hb2); (try clear hk); (try clear hi)) | ((with_reducible refine gate_callee (f := 30) rfl ?_); refine goesL_ (some 9) rfl rfl Try.func30 (by kernel_rfl) rfl #[.int .i64 a1] rfl (by (try simp only [List.map_toArray, List.map_cons, List.map_nil]); first | done | rfl | (simp only [List.length_drop, List.length_take]; rfl)) ?_; (with_reducible refine (latheref02_FromInt.calls k a1 t574 _ A4.out).mono ?_); rintro e w7 ⟨rfl, hb⟩; refine ⟨_, rfl, ?_⟩; have n0_ := Aside0.mk (blk_below (g := gb572) (o := .cells #[.int .u32 0, .int .u32 0] 25 (0, 0)) (by (with_reducible repeat (first | refine blk_drewN ?_ _ | refine blk_drew ?_ | refine blk_alloc ?_ _)); exact BK572.out) hb); have n1_ := Aside0.mk (below_step (by repeat (first | (with_reducible first | exact HB.out | apply below_alloc | apply pw_below_drewN | apply below_drew1 | refine below_set ?_ GE572.out) | exact HB.out)) hb); clear BK572; clear HB; have BK572 := n0_; have HB := n1_; clear n0_ n1_; (try clear hb); (try clear hb2); (try clear hk); (try clear hi); have hcz8_0 : w7.cell? ⟨gb572, 0, none⟩ = some (.int .u32 0) := (blk_cell BK572.out 0).trans rfl; have hcz8_1 : w7.cell? ⟨gb572, 1, none⟩ = some (.int .u32 0) := (blk_cell BK572.out 1).trans rfl; have hfz8_0 := blk_frozen BK572.out 0; have hfz8_1 := blk_frozen BK572.out 1))
  refine bodyPost_ret (results_cell_row rfl _ _ gb572 25 #[.int .u32 ((t573) % 4294967296), .int .u32 ((t574) % 4294967296)] (0, 0) _ rfl (by (with_reducible repeat (first | refine blk_drewN ?_ _ | refine blk_drew ?_ | refine blk_alloc ?_ _)); refine blk_put (cs := #[.int .u32 ((t573) % 4294967296), .int .u32 0]) ?_ 1 _ rfl; (with_reducible repeat (first | refine blk_drewN ?_ _ | refine blk_drew ?_ | refine blk_alloc ?_ _)); refine blk_put (cs := #[.int .u32 0, .int .u32 0]) ?_ 0 _ rfl; (with_reducible repeat (first | refine blk_drewN ?_ _ | refine blk_drew ?_ | refine blk_alloc ?_ _)); exact BK572.out) Try.underlying25 rfl (by kernel_rfl)) rfl ?_
  exact ⟨by first | rfl | (simp [errW_none, errW_some] <;> rfl) | (simp [*, errW_none, errW_some] <;> rfl), by repeat (first | (with_reducible first | exact HB.out | apply below_alloc | apply pw_below_drewN | apply below_drew1 | refine below_set ?_ GE572.out) | exact HB.out)⟩

/-! ### lathelaw04_alike: function 29 -/
def lathelaw04_alike.f (a0 : Int) (a1 : Int) : Option (Bool) := if a0 = a1 then (some true) else (if ((a0 * 2) % 4294967296) = 0 then (some (((a1 * 2) % 4294967296) == 0)) else (some false))
set_option maxHeartbeats 8000000 in
set_option maxRecDepth 100000 in
theorem lathelaw04_alike.calls (a0 : Int) (a1 : Int) (r : Bool) (w : World) (h : lathelaw04_alike.f a0 a1 = some r) :
    Calls Try.prog 29 #[.int .u32 a0, .int .u32 a1] w fun e w' => e = .returned (.bool r) ∧ Drawn0 w w' := by
  have H : (if a0 = a1 then (some true) else (if ((a0 * 2) % 4294967296) = 0 then (some (((a1 * 2) % 4294967296) == 0)) else (some false))) = some r := h
  clear h
  by_cases c3 : a0 = a1
  · rw [if_pos c3] at H
    have c3b0 : (a0 == a1) = true := beq_iff_eq.mpr c3
    have c3b1 : (a0 != a1) = false := bne_eq_false_iff_eq.mpr c3
    clear c3
    obtain rfl := Option.some.inj H
    go_enter Try.func29, Try.ntmps29
    go_wp2
    go_ret
    exact ⟨by first | rfl | (simp; done) | (simp [*]; done), by repeat (first | exact Drawn0.refl _ | apply Drawn0.step)⟩
  · rw [if_neg c3] at H
    have c3b0 : (a0 == a1) = false := beq_eq_false_iff_ne.mpr c3
    have c3b1 : (a0 != a1) = true := bne_iff_ne.mpr c3
    by_cases c4 : ((a0 * 2) % 4294967296) = 0
    · rw [if_pos c4] at H
      have c4b0 : (((a0 * 2) % 4294967296) == 0) = true := beq_iff_eq.mpr c4
      have c4b1 : (((a0 * 2) % 4294967296) != 0) = false := bne_eq_false_iff_eq.mpr c4
      clear c4
      obtain rfl := Option.some.inj H
      go_enter Try.func29, Try.ntmps29
      go_wp2
      go_ret
      exact ⟨by first | rfl | (simp; done) | (simp [*]; done), by repeat (first | exact Drawn0.refl _ | apply Drawn0.step)⟩
    · rw [if_neg c4] at H
      have c4b0 : (((a0 * 2) % 4294967296) == 0) = false := beq_eq_false_iff_ne.mpr c4
      have c4b1 : (((a0 * 2) % 4294967296) != 0) = true := bne_iff_ne.mpr c4
      obtain rfl := Option.some.inj H
      go_enter Try.func29, Try.ntmps29
      go_wp2
      go_ret
      exact ⟨by first | rfl | (simp; done) | (simp [*]; done), by repeat (first | exact Drawn0.refl _ | apply Drawn0.step)⟩

/-! ### lathelaw04_PairGauss: function 4 -/
def lathelaw04_PairGauss.j0 : Nat → Int → Int → Int → Int → Bool → Int → Int → Option (Bool)
  | 0, _, _, _, _, _, _, _ => none
  | k + 1, x3, x4, x5, x6, x57, x583000, x583001 => if x57 = true then (some false) else (if (wrap64 ((wrap64 ((wrap64 (x3 * x3)) + (wrap64 (x4 * x4)))) * (wrap64 ((wrap64 (x5 * x5)) + (wrap64 (x6 * x6)))))) ≥ 16777216 then ((lathelaw04_works.f).bind fun t588 => (some t588)) else ((pair_Square.f x583000 x583001).bind fun t589 => ((latheref02_FromInt.f k (wrap64 ((wrap64 ((wrap64 (x3 * x3)) + (wrap64 (x4 * x4)))) * (wrap64 ((wrap64 (x5 * x5)) + (wrap64 (x6 * x6))))))).bind fun t590 => (if (wrap64 (t589)) = t590 then ((lathelaw04_works.f).bind fun t591 => (some t591)) else (some false)))))
def lathelaw04_PairGauss.f (k : Nat) (a0_0 : Int) (a0_1 : Int) (a0_2 : Int) (a0_3 : Int) : Option (Bool) := (lathelaw04_whole.f k (Int.tmod a0_0 2048) (Int.tmod a0_1 2048)).bind fun bt576 => ((lathelaw04_whole.f k (Int.tmod a0_2 2048) (Int.tmod a0_3 2048)).bind fun bt578 => ((pair_Mul.f bt576.1 bt576.2 bt578.1 bt578.2).bind fun bt580 => ((lathelaw04_whole.f k (wrap64 ((wrap64 ((Int.tmod a0_0 2048) * (Int.tmod a0_2 2048))) - (wrap64 ((Int.tmod a0_1 2048) * (Int.tmod a0_3 2048))))) (wrap64 ((wrap64 ((Int.tmod a0_0 2048) * (Int.tmod a0_3 2048))) + (wrap64 ((Int.tmod a0_1 2048) * (Int.tmod a0_2 2048)))))).bind fun bt583 => ((lathelaw04_alike.f bt580.1 bt583.1).bind fun t586 => (if t586 = true then ((lathelaw04_alike.f bt580.2 bt583.2).bind fun t587 => (lathelaw04_PairGauss.j0 k (Int.tmod a0_0 2048) (Int.tmod a0_1 2048) (Int.tmod a0_2 2048) (Int.tmod a0_3 2048) (!t587) bt580.1 bt580.2)) else (lathelaw04_PairGauss.j0 k (Int.tmod a0_0 2048) (Int.tmod a0_1 2048) (Int.tmod a0_2 2048) (Int.tmod a0_3 2048) true bt580.1 bt580.2))))))
theorem lathelaw04_PairGauss.mono_l : ∀ k, (∀ y0 y1 y2 y3 y4 y5 y6, LeO (lathelaw04_PairGauss.j0 k y0 y1 y2 y3 y4 y5 y6) (lathelaw04_PairGauss.j0 (k + 1) y0 y1 y2 y3 y4 y5 y6))
  | 0 => fun _ _ _ _ _ _ _ r h => by simp [lathelaw04_PairGauss.j0] at h
  | k + 1 => by
    have ih0 := lathelaw04_PairGauss.mono_l k
    · intro y0 y1 y2 y3 y4 y5 y6
      unfold lathelaw04_PairGauss.j0
      repeat' first
      | (with_reducible exact ih0 _ _ _ _ _ _ _)
      | (with_reducible exact lathelaw04_whole.mono _ _ _)
      | (with_reducible exact latheref02_FromInt.mono _ _)
      | (with_reducible exact LeO.refl _)
      | (with_reducible exact LeO.none _)
      | (with_reducible refine LeO.ite ?_ ?_)
      | (with_reducible refine LeO.bind ?_ (fun _ => ?_))
      | exact ih0 _ _ _ _ _ _ _
      | exact lathelaw04_whole.mono _ _ _
      | exact latheref02_FromInt.mono _ _
      | exact LeO.none _
      | refine LeO.ite ?_ ?_
      | refine LeO.bind ?_ (fun _ => ?_)
theorem lathelaw04_PairGauss.mono : ∀ a0 a1 a2 a3 k, LeO (lathelaw04_PairGauss.f k a0 a1 a2 a3) (lathelaw04_PairGauss.f (k + 1) a0 a1 a2 a3) := by
  intro a0 a1 a2 a3 k
  have ih0 := lathelaw04_PairGauss.mono_l k
  unfold lathelaw04_PairGauss.f
  repeat' first
      | (with_reducible exact ih0 _ _ _ _ _ _ _)
      | (with_reducible exact lathelaw04_whole.mono _ _ _)
      | (with_reducible exact latheref02_FromInt.mono _ _)
      | (with_reducible exact LeO.refl _)
      | (with_reducible exact LeO.none _)
      | (with_reducible refine LeO.ite ?_ ?_)
      | (with_reducible refine LeO.bind ?_ (fun _ => ?_))
      | exact ih0 _ _ _ _ _ _ _
      | exact lathelaw04_whole.mono _ _ _
      | exact latheref02_FromInt.mono _ _
      | exact LeO.none _
      | refine LeO.ite ?_ ?_
      | refine LeO.bind ?_ (fun _ => ?_)
set_option maxHeartbeats 8000000 in
set_option maxRecDepth 100000 in
theorem lathelaw04_PairGauss.calls (k : Nat) (a0_0 : Int) (a0_1 : Int) (a0_2 : Int) (a0_3 : Int) (r : Bool) (w : World) (h : lathelaw04_PairGauss.f k a0_0 a0_1 a0_2 a0_3 = some r) :
    Calls Try.prog 4 #[.agg #[.int .i64 a0_0, .int .i64 a0_1, .int .i64 a0_2, .int .i64 a0_3]] w fun e w' => e = .returned (.bool r) ∧ Below w.heap.size w w' := by
  have hu32 := Try.underlying32
  have hu25 := Try.underlying25
  have HB := Aside0.mk (Below.refl w.heap.size w)
  have H : ((lathelaw04_whole.f k (Int.tmod a0_0 2048) (Int.tmod a0_1 2048)).bind fun bt576 => ((lathelaw04_whole.f k (Int.tmod a0_2 2048) (Int.tmod a0_3 2048)).bind fun bt578 => ((pair_Mul.f bt576.1 bt576.2 bt578.1 bt578.2).bind fun bt580 => ((lathelaw04_whole.f k (wrap64 ((wrap64 ((Int.tmod a0_0 2048) * (Int.tmod a0_2 2048))) - (wrap64 ((Int.tmod a0_1 2048) * (Int.tmod a0_3 2048))))) (wrap64 ((wrap64 ((Int.tmod a0_0 2048) * (Int.tmod a0_3 2048))) + (wrap64 ((Int.tmod a0_1 2048) * (Int.tmod a0_2 2048)))))).bind fun bt583 => ((lathelaw04_alike.f bt580.1 bt583.1).bind fun t586 => (if t586 = true then ((lathelaw04_alike.f bt580.2 bt583.2).bind fun t587 => (lathelaw04_PairGauss.j0 k (Int.tmod a0_0 2048) (Int.tmod a0_1 2048) (Int.tmod a0_2 2048) (Int.tmod a0_3 2048) (!t587) bt580.1 bt580.2)) else (lathelaw04_PairGauss.j0 k (Int.tmod a0_0 2048) (Int.tmod a0_1 2048) (Int.tmod a0_2 2048) (Int.tmod a0_3 2048) true bt580.1 bt580.2))))))) = some r := h
  clear h
  replace H := Option.bind_eq_some_iff.mp H
  obtain ⟨⟨t576, t577⟩, A20, H⟩ := H
  replace H : ((lathelaw04_whole.f k (Int.tmod a0_2 2048) (Int.tmod a0_3 2048)).bind fun bt578 => ((pair_Mul.f t576 t577 bt578.1 bt578.2).bind fun bt580 => ((lathelaw04_whole.f k (wrap64 ((wrap64 ((Int.tmod a0_0 2048) * (Int.tmod a0_2 2048))) - (wrap64 ((Int.tmod a0_1 2048) * (Int.tmod a0_3 2048))))) (wrap64 ((wrap64 ((Int.tmod a0_0 2048) * (Int.tmod a0_3 2048))) + (wrap64 ((Int.tmod a0_1 2048) * (Int.tmod a0_2 2048)))))).bind fun bt583 => ((lathelaw04_alike.f bt580.1 bt583.1).bind fun t586 => (if t586 = true then ((lathelaw04_alike.f bt580.2 bt583.2).bind fun t587 => (lathelaw04_PairGauss.j0 k (Int.tmod a0_0 2048) (Int.tmod a0_1 2048) (Int.tmod a0_2 2048) (Int.tmod a0_3 2048) (!t587) bt580.1 bt580.2)) else (lathelaw04_PairGauss.j0 k (Int.tmod a0_0 2048) (Int.tmod a0_1 2048) (Int.tmod a0_2 2048) (Int.tmod a0_3 2048) true bt580.1 bt580.2)))))) = some r := H
  have A2 := Aside0.mk A20
  clear A20
  replace H := Option.bind_eq_some_iff.mp H
  obtain ⟨⟨t578, t579⟩, A30, H⟩ := H
  replace H : ((pair_Mul.f t576 t577 t578 t579).bind fun bt580 => ((lathelaw04_whole.f k (wrap64 ((wrap64 ((Int.tmod a0_0 2048) * (Int.tmod a0_2 2048))) - (wrap64 ((Int.tmod a0_1 2048) * (Int.tmod a0_3 2048))))) (wrap64 ((wrap64 ((Int.tmod a0_0 2048) * (Int.tmod a0_3 2048))) + (wrap64 ((Int.tmod a0_1 2048) * (Int.tmod a0_2 2048)))))).bind fun bt583 => ((lathelaw04_alike.f bt580.1 bt583.1).bind fun t586 => (if t586 = true then ((lathelaw04_alike.f bt580.2 bt583.2).bind fun t587 => (lathelaw04_PairGauss.j0 k (Int.tmod a0_0 2048) (Int.tmod a0_1 2048) (Int.tmod a0_2 2048) (Int.tmod a0_3 2048) (!t587) bt580.1 bt580.2)) else (lathelaw04_PairGauss.j0 k (Int.tmod a0_0 2048) (Int.tmod a0_1 2048) (Int.tmod a0_2 2048) (Int.tmod a0_3 2048) true bt580.1 bt580.2))))) = some r := H
  have A3 := Aside0.mk A30
  clear A30
  replace H := Option.bind_eq_some_iff.mp H
  obtain ⟨⟨t580, t581⟩, A40, H⟩ := H
  replace H : ((lathelaw04_whole.f k (wrap64 ((wrap64 ((Int.tmod a0_0 2048) * (Int.tmod a0_2 2048))) - (wrap64 ((Int.tmod a0_1 2048) * (Int.tmod a0_3 2048))))) (wrap64 ((wrap64 ((Int.tmod a0_0 2048) * (Int.tmod a0_3 2048))) + (wrap64 ((Int.tmod a0_1 2048) * (Int.tmod a0_2 2048)))))).bind fun bt583 => ((lathelaw04_alike.f t580 bt583.1).bind fun t586 => (if t586 = true then ((lathelaw04_alike.f t581 bt583.2).bind fun t587 => (lathelaw04_PairGauss.j0 k (Int.tmod a0_0 2048) (Int.tmod a0_1 2048) (Int.tmod a0_2 2048) (Int.tmod a0_3 2048) (!t587) t580 t581)) else (lathelaw04_PairGauss.j0 k (Int.tmod a0_0 2048) (Int.tmod a0_1 2048) (Int.tmod a0_2 2048) (Int.tmod a0_3 2048) true t580 t581)))) = some r := H
  have A4 := Aside0.mk A40
  clear A40
  replace H := Option.bind_eq_some_iff.mp H
  obtain ⟨⟨t583, t584⟩, A50, H⟩ := H
  replace H : ((lathelaw04_alike.f t580 t583).bind fun t586 => (if t586 = true then ((lathelaw04_alike.f t581 t584).bind fun t587 => (lathelaw04_PairGauss.j0 k (Int.tmod a0_0 2048) (Int.tmod a0_1 2048) (Int.tmod a0_2 2048) (Int.tmod a0_3 2048) (!t587) t580 t581)) else (lathelaw04_PairGauss.j0 k (Int.tmod a0_0 2048) (Int.tmod a0_1 2048) (Int.tmod a0_2 2048) (Int.tmod a0_3 2048) true t580 t581))) = some r := H
  have A5 := Aside0.mk A50
  clear A50
  have HC6 := Aside0.mk H
  clear H
  go_enter Try.func4, Try.ntmps4
  go_upto_region 4 with (first | ((with_reducible refine gate_dst (N := 1) rfl ?_); refine box_event ?hg (N := 1) ?hd (cs := #[.int .i64 a0_0, .int .i64 a0_1, .int .i64 a0_2, .int .i64 a0_3]) (t := 32) ?hr ?_; (case hd => rfl); (case hg => rfl); (case hr => first | (go_simp; done) | (go_simp; rfl)); intro gb575 hg w7 hbox hb; have n0_ := Aside0.mk (below_step (by repeat (first | (with_reducible first | exact HB.out | apply below_alloc | apply pw_below_drewN | apply below_drew1) | exact HB.out)) hb); have n1_ := Aside0.mk (hbox); have n2_ := Aside0.mk ((by rw [hg]; exact (below_size (by repeat (first | (with_reducible first | exact HB.out | apply below_alloc | apply pw_below_drewN | apply below_drew1) | exact HB.out))) : w.heap.size ≤ gb575)); have n3_ := Aside0.mk ((by rw [hg]; exact (below_size (by repeat (first | (with_reducible first | exact HB.out | apply below_alloc | apply pw_below_drewN | apply below_drew1) | exact HB.out))) : w.heap.size ≤ gb575)); clear HB; have HB := n0_; have BK575 := n1_; have GW575 := n2_; have GE575 := n3_; clear n0_ n1_ n2_ n3_; clear hb hbox hg; have hcz8_0 : w7.cell? ⟨gb575, 0, none⟩ = some (.int .i64 a0_0) := (blk_cell BK575.out 0).trans rfl; have hcz8_1 : w7.cell? ⟨gb575, 1, none⟩ = some (.int .i64 a0_1) := (blk_cell BK575.out 1).trans rfl; have hcz8_2 : w7.cell? ⟨gb575, 2, none⟩ = some (.int .i64 a0_2) := (blk_cell BK575.out 2).trans rfl; have hcz8_3 : w7.cell? ⟨gb575, 3, none⟩ = some (.int .i64 a0_3) := (blk_cell BK575.out 3).trans rfl; have hfz8_0 := blk_frozen BK575.out 0; have hfz8_1 := blk_frozen BK575.out 1; have hfz8_2 := blk_frozen BK575.out 2; have hfz8_3 := blk_frozen BK575.out 3) | (go_at_call 28; (with_reducible refine (lathelaw04_whole.calls k (Int.tmod a0_0 2048) (Int.tmod a0_1 2048) t576 t577 _ A2.out).mono ?_); clear A2; rintro e w9 ⟨rfl, hb⟩; have n0_ := Aside0.mk (blk_below (g := gb575) (o := .cells #[.int .i64 a0_0, .int .i64 a0_1, .int .i64 a0_2, .int .i64 a0_3] 32 (0, 0)) (by (with_reducible repeat (first | refine blk_drewN ?_ _ | refine blk_drew ?_ | refine blk_alloc ?_ _)); exact BK575.out) hb); have n1_ := Aside0.mk (below_step (by repeat (first | (with_reducible first | exact HB.out | apply below_alloc | apply pw_below_drewN | apply below_drew1 | refine below_set ?_ GE575.out) | exact HB.out)) hb); clear BK575; clear HB; have BK575 := n0_; have HB := n1_; clear n0_ n1_; (try clear hb); (try clear hb2); (try clear hk); (try clear hi)) | (go_at_call 28; (with_reducible refine (lathelaw04_whole.calls k (Int.tmod a0_2 2048) (Int.tmod a0_3 2048) t578 t579 _ A3.out).mono ?_); clear A3; rintro e w10 ⟨rfl, hb⟩; have n0_ := Aside0.mk (blk_below (g := gb575) (o := .cells #[.int .i64 a0_0, .int .i64 a0_1, .int .i64 a0_2, .int .i64 a0_3] 32 (0, 0)) (by (with_reducible repeat (first | refine blk_drewN ?_ _ | refine blk_drew ?_ | refine blk_alloc ?_ _)); exact BK575.out) hb); have n1_ := Aside0.mk (below_step (by repeat (first | (with_reducible first | exact HB.out | apply below_alloc | apply pw_below_drewN | apply below_drew1 | refine below_set ?_ GE575.out) | exact HB.out)) hb); clear BK575; clear HB; have BK575 := n0_; have HB := n1_; clear n0_ n1_; (try clear hb); (try clear hb2); (try clear hk); (try clear hi)) | (go_at_call 23; (with_reducible refine (pair_Mul.calls t576 t577 t578 t579 t580 t581 _ A4.out).mono ?_); clear A4; rintro e w11 ⟨rfl, hb⟩; have n0_ := Aside0.mk (blk_below (g := gb575) (o := .cells #[.int .i64 a0_0, .int .i64 a0_1, .int .i64 a0_2, .int .i64 a0_3] 32 (0, 0)) (by (with_reducible repeat (first | refine blk_drewN ?_ _ | refine blk_drew ?_ | refine blk_alloc ?_ _)); exact BK575.out) hb); have n1_ := Aside0.mk (below_step (by repeat (first | (with_reducible first | exact HB.out | apply below_alloc | apply pw_below_drewN | apply below_drew1 | refine below_set ?_ GE575.out) | exact HB.out)) hb); clear BK575; clear HB; have BK575 := n0_; have HB := n1_; clear n0_ n1_; (try clear hb); (try clear hb2); (try clear hk); (try clear hi)) | ((with_reducible refine gate_dst (N := 7) rfl ?_); refine box_event ?hg (N := 7) ?hd (cs := #[.int .u32 0, .int .u32 0]) (t := 25) ?hr ?_; (case hd => rfl); (case hg => rfl); (case hr => first | (go_simp; done) | (go_simp; rfl)); intro gb582 hg w12 hbox hb; have n0_ := Aside0.mk (blk_below (g := gb575) (o := .cells #[.int .i64 a0_0, .int .i64 a0_1, .int .i64 a0_2, .int .i64 a0_3] 32 (0, 0)) (by (with_reducible repeat (first | refine blk_drewN ?_ _ | refine blk_drew ?_ | refine blk_alloc ?_ _)); exact BK575.out) hb); have n1_ := Aside0.mk (below_step (by repeat (first | (with_reducible first | exact HB.out | apply below_alloc | apply pw_below_drewN | apply below_drew1 | refine below_set ?_ GE575.out) | exact HB.out)) hb); have n2_ := Aside0.mk (hbox); have n3_ := Aside0.mk ((by rw [hg]; exact (below_size (by repeat (first | (with_reducible first | exact HB.out | apply below_alloc | apply pw_below_drewN | apply below_drew1 | refine below_set ?_ GE575.out) | exact HB.out))) : w.heap.size ≤ gb582)); have n4_ := Aside0.mk ((by rw [hg]; exact (below_size (by repeat (first | (with_reducible first | exact HB.out | apply below_alloc | apply pw_below_drewN | apply below_drew1 | refine below_set ?_ GE575.out) | exact HB.out))) : w.heap.size ≤ gb582)); have n5_ := Aside0.mk ((by rw [hg]; exact Nat.ne_of_lt (blk_lt (g := gb575) (o := .cells #[.int .i64 a0_0, .int .i64 a0_1, .int .i64 a0_2, .int .i64 a0_3] 32 (0, 0)) (by (with_reducible repeat (first | refine blk_drewN ?_ _ | refine blk_drew ?_ | refine blk_alloc ?_ _)); exact BK575.out)) : gb575 ≠ gb582)); have n6_ := Aside0.mk ((by rw [hg]; exact Nat.ne_of_gt (blk_lt (g := gb575) (o := .cells #[.int .i64 a0_0, .int .i64 a0_1, .int .i64 a0_2, .int .i64 a0_3] 32 (0, 0)) (by (with_reducible repeat (first | refine blk_drewN ?_ _ | refine blk_drew ?_ | refine blk_alloc ?_ _)); exact BK575.out)) : gb582 ≠ gb575)); clear BK575; clear HB; have BK575 := n0_; have HB := n1_; have BK582 := n2_; have GW582 := n3_; have GE582 := n4_; have NB575_582 := n5_; have NB582_575 := n6_; clear n0_ n1_ n2_ n3_ n4_ n5_ n6_; clear hb hbox hg; have hnb13 := NB582_575.out; have hnc13 := NB575_582.out; have hcz14_0 : w12.cell? ⟨gb582, 0, none⟩ = some (.int .u32 0) := (blk_cell BK582.out 0).trans rfl; have hcz14_1 : w12.cell? ⟨gb582, 1, none⟩ = some (.int .u32 0) := (blk_cell BK582.out 1).trans rfl; have hfz14_0 := blk_frozen BK582.out 0; have hfz14_1 := blk_frozen BK582.out 1) | (go_at_call 28; (with_reducible refine (lathelaw04_whole.calls k (wrap64 ((wrap64 ((Int.tmod a0_0 2048) * (Int.tmod a0_2 2048))) - (wrap64 ((Int.tmod a0_1 2048) * (Int.tmod a0_3 2048))))) (wrap64 ((wrap64 ((Int.tmod a0_0 2048) * (Int.tmod a0_3 2048))) + (wrap64 ((Int.tmod a0_1 2048) * (Int.tmod a0_2 2048))))) t583 t584 _ A5.out).mono ?_); clear A5; rintro e w15 ⟨rfl, hb⟩; have n0_ := Aside0.mk (blk_below (g := gb575) (o := .cells #[.int .i64 a0_0, .int .i64 a0_1, .int .i64 a0_2, .int .i64 a0_3] 32 (0, 0)) (by (with_reducible repeat (first | refine blk_drewN ?_ _ | refine blk_drew ?_ | refine blk_alloc ?_ _)); refine blk_far ?_ NB575_582.out _; (with_reducible repeat (first | refine blk_drewN ?_ _ | refine blk_drew ?_ | refine blk_alloc ?_ _)); refine blk_far ?_ NB575_582.out _; (with_reducible repeat (first | refine blk_drewN ?_ _ | refine blk_drew ?_ | refine blk_alloc ?_ _)); exact BK575.out) hb); have n1_ := Aside0.mk (blk_below (g := gb582) (o := .cells #[.int .u32 t580, .int .u32 t581] 25 (0, 0)) (by (with_reducible repeat (first | refine blk_drewN ?_ _ | refine blk_drew ?_ | refine blk_alloc ?_ _)); refine blk_put (cs := #[.int .u32 t580, .int .u32 0]) ?_ 1 _ rfl; (with_reducible repeat (first | refine blk_drewN ?_ _ | refine blk_drew ?_ | refine blk_alloc ?_ _)); refine blk_put (cs := #[.int .u32 0, .int .u32 0]) ?_ 0 _ rfl; (with_reducible repeat (first | refine blk_drewN ?_ _ | refine blk_drew ?_ | refine blk_alloc ?_ _)); exact BK582.out) hb); have n2_ := Aside0.mk (below_step (by repeat (first | (with_reducible first | exact HB.out | apply below_alloc | apply pw_below_drewN | apply below_drew1 | refine below_set ?_ GE575.out | refine below_set ?_ GE582.out) | exact HB.out)) hb); clear BK575; clear BK582; clear HB; have BK575 := n0_; have BK582 := n1_; have HB := n2_; clear n0_ n1_ n2_; (try clear hb); (try clear hb2); (try clear hk); (try clear hi)) | ((with_reducible refine gate_dst (N := 8) rfl ?_); refine box_event ?hg (N := 8) ?hd (cs := #[.int .u32 0, .int .u32 0]) (t := 25) ?hr ?_; (case hd => rfl); (case hg => rfl); (case hr => first | (go_simp; done) | (go_simp; rfl)); intro gb585 hg w16 hbox hb; have n0_ := Aside0.mk (blk_below (g := gb575) (o := .cells #[.int .i64 a0_0, .int .i64 a0_1, .int .i64 a0_2, .int .i64 a0_3] 32 (0, 0)) (by (with_reducible repeat (first | refine blk_drewN ?_ _ | refine blk_drew ?_ | refine blk_alloc ?_ _)); exact BK575.out) hb); have n1_ := Aside0.mk (blk_below (g := gb582) (o := .cells #[.int .u32 t580, .int .u32 t581] 25 (0, 0)) (by (with_reducible repeat (first | refine blk_drewN ?_ _ | refine blk_drew ?_ | refine blk_alloc ?_ _)); exact BK582.out) hb); have n2_ := Aside0.mk (below_step (by repeat (first | (with_reducible first | exact HB.out | apply below_alloc | apply pw_below_drewN | apply below_drew1 | refine below_set ?_ GE575.out | refine below_set ?_ GE582.out) | exact HB.out)) hb); have n3_ := Aside0.mk (hbox); have n4_ := Aside0.mk ((by rw [hg]; exact (below_size (by repeat (first | (with_reducible first | exact HB.out | apply below_alloc | apply pw_below_drewN | apply below_drew1 | refine below_set ?_ GE575.out | refine below_set ?_ GE582.out) | exact HB.out))) : w.heap.size ≤ gb585)); have n5_ := Aside0.mk ((by rw [hg]; exact (below_size (by repeat (first | (with_reducible first | exact HB.out | apply below_alloc | apply pw_below_drewN | apply below_drew1 | refine below_set ?_ GE575.out | refine below_set ?_ GE582.out) | exact HB.out))) : w.heap.size ≤ gb585)); have n6_ := Aside0.mk ((by rw [hg]; exact Nat.ne_of_lt (blk_lt (g := gb575) (o := .cells #[.int .i64 a0_0, .int .i64 a0_1, .int .i64 a0_2, .int .i64 a0_3] 32 (0, 0)) (by (with_reducible repeat (first | refine blk_drewN ?_ _ | refine blk_drew ?_ | refine blk_alloc ?_ _)); exact BK575.out)) : gb575 ≠ gb585)); have n7_ := Aside0.mk ((by rw [hg]; exact Nat.ne_of_gt (blk_lt (g := gb575) (o := .cells #[.int .i64 a0_0, .int .i64 a0_1, .int .i64 a0_2, .int .i64 a0_3] 32 (0, 0)) (by (with_reducible repeat (first | refine blk_drewN ?_ _ | refine blk_drew ?_ | refine blk_alloc ?_ _)); exact BK575.out)) : gb585 ≠ gb575)); have n8_ := Aside0.mk ((by rw [hg]; exact Nat.ne_of_lt (blk_lt (g := gb582) (o := .cells #[.int .u32 t580, .int .u32 t581] 25 (0, 0)) (by (with_reducible repeat (first | refine blk_drewN ?_ _ | refine blk_drew ?_ | refine blk_alloc ?_ _)); exact BK582.out)) : gb582 ≠ gb585)); have n9_ := Aside0.mk ((by rw [hg]; exact Nat.ne_of_gt (blk_lt (g := gb582) (o := .cells #[.int .u32 t580, .int .u32 t581] 25 (0, 0)) (by (with_reducible repeat (first | refine blk_drewN ?_ _ | refine blk_drew ?_ | refine blk_alloc ?_ _)); exact BK582.out)) : gb585 ≠ gb582)); clear BK575; clear BK582; clear HB; have BK575 := n0_; have BK582 := n1_; have HB := n2_; have BK585 := n3_; have GW585 := n4_; have GE585 := n5_; have NB575_585 := n6_; have NB585_575 := n7_; have NB582_585 := n8_; have NB585_582 := n9_; clear n0_ n1_ n2_ n3_ n4_ n5_ n6_ n7_ n8_ n9_; clear hb hbox hg; have hnb17 := NB585_575.out; have hnc17 := NB575_585.out; have hnb18 := NB585_582.out; have hnc18 := NB582_585.out; have hcz19_0 : w16.cell? ⟨gb585, 0, none⟩ = some (.int .u32 0) := (blk_cell BK585.out 0).trans rfl; have hcz19_1 : w16.cell? ⟨gb585, 1, none⟩ = some (.int .u32 0) := (blk_cell BK585.out 1).trans rfl; have hfz19_0 := blk_frozen BK585.out 0; have hfz19_1 := blk_frozen BK585.out 1))
  repeat (go_quiet (first | ((with_reducible refine gate_dst (N := 1) rfl ?_); refine box_event ?hg (N := 1) ?hd (cs := #[.int .i64 a0_0, .int .i64 a0_1, .int .i64 a0_2, .int .i64 a0_3]) (t := 32) ?hr ?_; (case hd => rfl); (case hg => rfl); (case hr => first | (go_simp; done) | (go_simp; rfl)); intro gb575 hg w7 hbox hb; have n0_ := Aside0.mk (below_step (by repeat (first | (with_reducible first | exact HB.out | apply below_alloc | apply pw_below_drewN | apply below_drew1) | exact HB.out)) hb); have n1_ := Aside0.mk (hbox); have n2_ := Aside0.mk ((by rw [hg]; exact (below_size (by repeat (first | (with_reducible first | exact HB.out | apply below_alloc | apply pw_below_drewN | apply below_drew1) | exact HB.out))) : w.heap.size ≤ gb575)); have n3_ := Aside0.mk ((by rw [hg]; exact (below_size (by repeat (first | (with_reducible first | exact HB.out | apply below_alloc | apply pw_below_drewN | apply below_drew1) | exact HB.out))) : w.heap.size ≤ gb575)); clear HB; have HB := n0_; have BK575 := n1_; have GW575 := n2_; have GE575 := n3_; clear n0_ n1_ n2_ n3_; clear hb hbox hg; have hcz8_0 : w7.cell? ⟨gb575, 0, none⟩ = some (.int .i64 a0_0) := (blk_cell BK575.out 0).trans rfl; have hcz8_1 : w7.cell? ⟨gb575, 1, none⟩ = some (.int .i64 a0_1) := (blk_cell BK575.out 1).trans rfl; have hcz8_2 : w7.cell? ⟨gb575, 2, none⟩ = some (.int .i64 a0_2) := (blk_cell BK575.out 2).trans rfl; have hcz8_3 : w7.cell? ⟨gb575, 3, none⟩ = some (.int .i64 a0_3) := (blk_cell BK575.out 3).trans rfl; have hfz8_0 := blk_frozen BK575.out 0; have hfz8_1 := blk_frozen BK575.out 1; have hfz8_2 := blk_frozen BK575.out 2; have hfz8_3 := blk_frozen BK575.out 3) | (go_at_call 28; (with_reducible refine (lathelaw04_whole.calls k (Int.tmod a0_0 2048) (Int.tmod a0_1 2048) t576 t577 _ A2.out).mono ?_); clear A2; rintro e w9 ⟨rfl, hb⟩; have n0_ := Aside0.mk (blk_below (g := gb575) (o := .cells #[.int .i64 a0_0, .int .i64 a0_1, .int .i64 a0_2, .int .i64 a0_3] 32 (0, 0)) (by (with_reducible repeat (first | refine blk_drewN ?_ _ | refine blk_drew ?_ | refine blk_alloc ?_ _)); exact BK575.out) hb); have n1_ := Aside0.mk (below_step (by repeat (first | (with_reducible first | exact HB.out | apply below_alloc | apply pw_below_drewN | apply below_drew1 | refine below_set ?_ GE575.out) | exact HB.out)) hb); clear BK575; clear HB; have BK575 := n0_; have HB := n1_; clear n0_ n1_; (try clear hb); (try clear hb2); (try clear hk); (try clear hi)) | (go_at_call 28; (with_reducible refine (lathelaw04_whole.calls k (Int.tmod a0_2 2048) (Int.tmod a0_3 2048) t578 t579 _ A3.out).mono ?_); clear A3; rintro e w10 ⟨rfl, hb⟩; have n0_ := Aside0.mk (blk_below (g := gb575) (o := .cells #[.int .i64 a0_0, .int .i64 a0_1, .int .i64 a0_2, .int .i64 a0_3] 32 (0, 0)) (by (with_reducible repeat (first | refine blk_drewN ?_ _ | refine blk_drew ?_ | refine blk_alloc ?_ _)); exact BK575.out) hb); have n1_ := Aside0.mk (below_step (by repeat (first | (with_reducible first | exact HB.out | apply below_alloc | apply pw_below_drewN | apply below_drew1 | refine below_set ?_ GE575.out) | exact HB.out)) hb); clear BK575; clear HB; have BK575 := n0_; have HB := n1_; clear n0_ n1_; (try clear hb); (try clear hb2); (try clear hk); (try clear hi)) | (go_at_call 23; (with_reducible refine (pair_Mul.calls t576 t577 t578 t579 t580 t581 _ A4.out).mono ?_); clear A4; rintro e w11 ⟨rfl, hb⟩; have n0_ := Aside0.mk (blk_below (g := gb575) (o := .cells #[.int .i64 a0_0, .int .i64 a0_1, .int .i64 a0_2, .int .i64 a0_3] 32 (0, 0)) (by (with_reducible repeat (first | refine blk_drewN ?_ _ | refine blk_drew ?_ | refine blk_alloc ?_ _)); exact BK575.out) hb); have n1_ := Aside0.mk (below_step (by repeat (first | (with_reducible first | exact HB.out | apply below_alloc | apply pw_below_drewN | apply below_drew1 | refine below_set ?_ GE575.out) | exact HB.out)) hb); clear BK575; clear HB; have BK575 := n0_; have HB := n1_; clear n0_ n1_; (try clear hb); (try clear hb2); (try clear hk); (try clear hi)) | ((with_reducible refine gate_dst (N := 7) rfl ?_); refine box_event ?hg (N := 7) ?hd (cs := #[.int .u32 0, .int .u32 0]) (t := 25) ?hr ?_; (case hd => rfl); (case hg => rfl); (case hr => first | (go_simp; done) | (go_simp; rfl)); intro gb582 hg w12 hbox hb; have n0_ := Aside0.mk (blk_below (g := gb575) (o := .cells #[.int .i64 a0_0, .int .i64 a0_1, .int .i64 a0_2, .int .i64 a0_3] 32 (0, 0)) (by (with_reducible repeat (first | refine blk_drewN ?_ _ | refine blk_drew ?_ | refine blk_alloc ?_ _)); exact BK575.out) hb); have n1_ := Aside0.mk (below_step (by repeat (first | (with_reducible first | exact HB.out | apply below_alloc | apply pw_below_drewN | apply below_drew1 | refine below_set ?_ GE575.out) | exact HB.out)) hb); have n2_ := Aside0.mk (hbox); have n3_ := Aside0.mk ((by rw [hg]; exact (below_size (by repeat (first | (with_reducible first | exact HB.out | apply below_alloc | apply pw_below_drewN | apply below_drew1 | refine below_set ?_ GE575.out) | exact HB.out))) : w.heap.size ≤ gb582)); have n4_ := Aside0.mk ((by rw [hg]; exact (below_size (by repeat (first | (with_reducible first | exact HB.out | apply below_alloc | apply pw_below_drewN | apply below_drew1 | refine below_set ?_ GE575.out) | exact HB.out))) : w.heap.size ≤ gb582)); have n5_ := Aside0.mk ((by rw [hg]; exact Nat.ne_of_lt (blk_lt (g := gb575) (o := .cells #[.int .i64 a0_0, .int .i64 a0_1, .int .i64 a0_2, .int .i64 a0_3] 32 (0, 0)) (by (with_reducible repeat (first | refine blk_drewN ?_ _ | refine blk_drew ?_ | refine blk_alloc ?_ _)); exact BK575.out)) : gb575 ≠ gb582)); have n6_ := Aside0.mk ((by rw [hg]; exact Nat.ne_of_gt (blk_lt (g := gb575) (o := .cells #[.int .i64 a0_0, .int .i64 a0_1, .int .i64 a0_2, .int .i64 a0_3] 32 (0, 0)) (by (with_reducible repeat (first | refine blk_drewN ?_ _ | refine blk_drew ?_ | refine blk_alloc ?_ _)); exact BK575.out)) : gb582 ≠ gb575)); clear BK575; clear HB; have BK575 := n0_; have HB := n1_; have BK582 := n2_; have GW582 := n3_; have GE582 := n4_; have NB575_582 := n5_; have NB582_575 := n6_; clear n0_ n1_ n2_ n3_ n4_ n5_ n6_; clear hb hbox hg; have hnb13 := NB582_575.out; have hnc13 := NB575_582.out; have hcz14_0 : w12.cell? ⟨gb582, 0, none⟩ = some (.int .u32 0) := (blk_cell BK582.out 0).trans rfl; have hcz14_1 : w12.cell? ⟨gb582, 1, none⟩ = some (.int .u32 0) := (blk_cell BK582.out 1).trans rfl; have hfz14_0 := blk_frozen BK582.out 0; have hfz14_1 := blk_frozen BK582.out 1) | (go_at_call 28; (with_reducible refine (lathelaw04_whole.calls k (wrap64 ((wrap64 ((Int.tmod a0_0 2048) * (Int.tmod a0_2 2048))) - (wrap64 ((Int.tmod a0_1 2048) * (Int.tmod a0_3 2048))))) (wrap64 ((wrap64 ((Int.tmod a0_0 2048) * (Int.tmod a0_3 2048))) + (wrap64 ((Int.tmod a0_1 2048) * (Int.tmod a0_2 2048))))) t583 t584 _ A5.out).mono ?_); clear A5; rintro e w15 ⟨rfl, hb⟩; have n0_ := Aside0.mk (blk_below (g := gb575) (o := .cells #[.int .i64 a0_0, .int .i64 a0_1, .int .i64 a0_2, .int .i64 a0_3] 32 (0, 0)) (by (with_reducible repeat (first | refine blk_drewN ?_ _ | refine blk_drew ?_ | refine blk_alloc ?_ _)); refine blk_far ?_ NB575_582.out _; (with_reducible repeat (first | refine blk_drewN ?_ _ | refine blk_drew ?_ | refine blk_alloc ?_ _)); refine blk_far ?_ NB575_582.out _; (with_reducible repeat (first | refine blk_drewN ?_ _ | refine blk_drew ?_ | refine blk_alloc ?_ _)); exact BK575.out) hb); have n1_ := Aside0.mk (blk_below (g := gb582) (o := .cells #[.int .u32 t580, .int .u32 t581] 25 (0, 0)) (by (with_reducible repeat (first | refine blk_drewN ?_ _ | refine blk_drew ?_ | refine blk_alloc ?_ _)); refine blk_put (cs := #[.int .u32 t580, .int .u32 0]) ?_ 1 _ rfl; (with_reducible repeat (first | refine blk_drewN ?_ _ | refine blk_drew ?_ | refine blk_alloc ?_ _)); refine blk_put (cs := #[.int .u32 0, .int .u32 0]) ?_ 0 _ rfl; (with_reducible repeat (first | refine blk_drewN ?_ _ | refine blk_drew ?_ | refine blk_alloc ?_ _)); exact BK582.out) hb); have n2_ := Aside0.mk (below_step (by repeat (first | (with_reducible first | exact HB.out | apply below_alloc | apply pw_below_drewN | apply below_drew1 | refine below_set ?_ GE575.out | refine below_set ?_ GE582.out) | exact HB.out)) hb); clear BK575; clear BK582; clear HB; have BK575 := n0_; have BK582 := n1_; have HB := n2_; clear n0_ n1_ n2_; (try clear hb); (try clear hb2); (try clear hk); (try clear hi)) | ((with_reducible refine gate_dst (N := 8) rfl ?_); refine box_event ?hg (N := 8) ?hd (cs := #[.int .u32 0, .int .u32 0]) (t := 25) ?hr ?_; (case hd => rfl); (case hg => rfl); (case hr => first | (go_simp; done) | (go_simp; rfl)); intro gb585 hg w16 hbox hb; have n0_ := Aside0.mk (blk_below (g := gb575) (o := .cells #[.int .i64 a0_0, .int .i64 a0_1, .int .i64 a0_2, .int .i64 a0_3] 32 (0, 0)) (by (with_reducible repeat (first | refine blk_drewN ?_ _ | refine blk_drew ?_ | refine blk_alloc ?_ _)); exact BK575.out) hb); have n1_ := Aside0.mk (blk_below (g := gb582) (o := .cells #[.int .u32 t580, .int .u32 t581] 25 (0, 0)) (by (with_reducible repeat (first | refine blk_drewN ?_ _ | refine blk_drew ?_ | refine blk_alloc ?_ _)); exact BK582.out) hb); have n2_ := Aside0.mk (below_step (by repeat (first | (with_reducible first | exact HB.out | apply below_alloc | apply pw_below_drewN | apply below_drew1 | refine below_set ?_ GE575.out | refine below_set ?_ GE582.out) | exact HB.out)) hb); have n3_ := Aside0.mk (hbox); have n4_ := Aside0.mk ((by rw [hg]; exact (below_size (by repeat (first | (with_reducible first | exact HB.out | apply below_alloc | apply pw_below_drewN | apply below_drew1 | refine below_set ?_ GE575.out | refine below_set ?_ GE582.out) | exact HB.out))) : w.heap.size ≤ gb585)); have n5_ := Aside0.mk ((by rw [hg]; exact (below_size (by repeat (first | (with_reducible first | exact HB.out | apply below_alloc | apply pw_below_drewN | apply below_drew1 | refine below_set ?_ GE575.out | refine below_set ?_ GE582.out) | exact HB.out))) : w.heap.size ≤ gb585)); have n6_ := Aside0.mk ((by rw [hg]; exact Nat.ne_of_lt (blk_lt (g := gb575) (o := .cells #[.int .i64 a0_0, .int .i64 a0_1, .int .i64 a0_2, .int .i64 a0_3] 32 (0, 0)) (by (with_reducible repeat (first | refine blk_drewN ?_ _ | refine blk_drew ?_ | refine blk_alloc ?_ _)); exact BK575.out)) : gb575 ≠ gb585)); have n7_ := Aside0.mk ((by rw [hg]; exact Nat.ne_of_gt (blk_lt (g := gb575) (o := .cells #[.int .i64 a0_0, .int .i64 a0_1, .int .i64 a0_2, .int .i64 a0_3] 32 (0, 0)) (by (with_reducible repeat (first | refine blk_drewN ?_ _ | refine blk_drew ?_ | refine blk_alloc ?_ _)); exact BK575.out)) : gb585 ≠ gb575)); have n8_ := Aside0.mk ((by rw [hg]; exact Nat.ne_of_lt (blk_lt (g := gb582) (o := .cells #[.int .u32 t580, .int .u32 t581] 25 (0, 0)) (by (with_reducible repeat (first | refine blk_drewN ?_ _ | refine blk_drew ?_ | refine blk_alloc ?_ _)); exact BK582.out)) : gb582 ≠ gb585)); have n9_ := Aside0.mk ((by rw [hg]; exact Nat.ne_of_gt (blk_lt (g := gb582) (o := .cells #[.int .u32 t580, .int .u32 t581] 25 (0, 0)) (by (with_reducible repeat (first | refine blk_drewN ?_ _ | refine blk_drew ?_ | refine blk_alloc ?_ _)); exact BK582.out)) : gb585 ≠ gb582)); clear BK575; clear BK582; clear HB; have BK575 := n0_; have BK582 := n1_; have HB := n2_; have BK585 := n3_; have GW585 := n4_; have GE585 := n5_; have NB575_585 := n6_; have NB585_575 := n7_; have NB582_585 := n8_; have NB585_582 := n9_; clear n0_ n1_ n2_ n3_ n4_ n5_ n6_ n7_ n8_ n9_; clear hb hbox hg; have hnb17 := NB585_575.out; have hnc17 := NB575_585.out; have hnb18 := NB585_582.out; have hnc18 := NB582_585.out; have hcz19_0 : w16.cell? ⟨gb585, 0, none⟩ = some (.int .u32 0) := (blk_cell BK585.out 0).trans rfl; have hcz19_1 : w16.cell? ⟨gb585, 1, none⟩ = some (.int .u32 0) := (blk_cell BK585.out 1).trans rfl; have hfz19_0 := blk_frozen BK585.out 0; have hfz19_1 := blk_frozen BK585.out 1)); go_upto_region 4 with (first | ((with_reducible refine gate_dst (N := 1) rfl ?_); refine box_event ?hg (N := 1) ?hd (cs := #[.int .i64 a0_0, .int .i64 a0_1, .int .i64 a0_2, .int .i64 a0_3]) (t := 32) ?hr ?_; (case hd => rfl); (case hg => rfl); (case hr => first | (go_simp; done) | (go_simp; rfl)); intro gb575 hg w7 hbox hb; have n0_ := Aside0.mk (below_step (by repeat (first | (with_reducible first | exact HB.out | apply below_alloc | apply pw_below_drewN | apply below_drew1) | exact HB.out)) hb); have n1_ := Aside0.mk (hbox); have n2_ := Aside0.mk ((by rw [hg]; exact (below_size (by repeat (first | (with_reducible first | exact HB.out | apply below_alloc | apply pw_below_drewN | apply below_drew1) | exact HB.out))) : w.heap.size ≤ gb575)); have n3_ := Aside0.mk ((by rw [hg]; exact (below_size (by repeat (first | (with_reducible first | exact HB.out | apply below_alloc | apply pw_below_drewN | apply below_drew1) | exact HB.out))) : w.heap.size ≤ gb575)); clear HB; have HB := n0_; have BK575 := n1_; have GW575 := n2_; have GE575 := n3_; clear n0_ n1_ n2_ n3_; clear hb hbox hg; have hcz8_0 : w7.cell? ⟨gb575, 0, none⟩ = some (.int .i64 a0_0) := (blk_cell BK575.out 0).trans rfl; have hcz8_1 : w7.cell? ⟨gb575, 1, none⟩ = some (.int .i64 a0_1) := (blk_cell BK575.out 1).trans rfl; have hcz8_2 : w7.cell? ⟨gb575, 2, none⟩ = some (.int .i64 a0_2) := (blk_cell BK575.out 2).trans rfl; have hcz8_3 : w7.cell? ⟨gb575, 3, none⟩ = some (.int .i64 a0_3) := (blk_cell BK575.out 3).trans rfl; have hfz8_0 := blk_frozen BK575.out 0; have hfz8_1 := blk_frozen BK575.out 1; have hfz8_2 := blk_frozen BK575.out 2; have hfz8_3 := blk_frozen BK575.out 3) | (go_at_call 28; (with_reducible refine (lathelaw04_whole.calls k (Int.tmod a0_0 2048) (Int.tmod a0_1 2048) t576 t577 _ A2.out).mono ?_); clear A2; rintro e w9 ⟨rfl, hb⟩; have n0_ := Aside0.mk (blk_below (g := gb575) (o := .cells #[.int .i64 a0_0, .int .i64 a0_1, .int .i64 a0_2, .int .i64 a0_3] 32 (0, 0)) (by (with_reducible repeat (first | refine blk_drewN ?_ _ | refine blk_drew ?_ | refine blk_alloc ?_ _)); exact BK575.out) hb); have n1_ := Aside0.mk (below_step (by repeat (first | (with_reducible first | exact HB.out | apply below_alloc | apply pw_below_drewN | apply below_drew1 | refine below_set ?_ GE575.out) | exact HB.out)) hb); clear BK575; clear HB; have BK575 := n0_; have HB := n1_; clear n0_ n1_; (try clear hb); (try clear hb2); (try clear hk); (try clear hi)) | (go_at_call 28; (with_reducible refine (lathelaw04_whole.calls k (Int.tmod a0_2 2048) (Int.tmod a0_3 2048) t578 t579 _ A3.out).mono ?_); clear A3; rintro e w10 ⟨rfl, hb⟩; have n0_ := Aside0.mk (blk_below (g := gb575) (o := .cells #[.int .i64 a0_0, .int .i64 a0_1, .int .i64 a0_2, .int .i64 a0_3] 32 (0, 0)) (by (with_reducible repeat (first | refine blk_drewN ?_ _ | refine blk_drew ?_ | refine blk_alloc ?_ _)); exact BK575.out) hb); have n1_ := Aside0.mk (below_step (by repeat (first | (with_reducible first | exact HB.out | apply below_alloc | apply pw_below_drewN | apply below_drew1 | refine below_set ?_ GE575.out) | exact HB.out)) hb); clear BK575; clear HB; have BK575 := n0_; have HB := n1_; clear n0_ n1_; (try clear hb); (try clear hb2); (try clear hk); (try clear hi)) | (go_at_call 23; (with_reducible refine (pair_Mul.calls t576 t577 t578 t579 t580 t581 _ A4.out).mono ?_); clear A4; rintro e w11 ⟨rfl, hb⟩; have n0_ := Aside0.mk (blk_below (g := gb575) (o := .cells #[.int .i64 a0_0, .int .i64 a0_1, .int .i64 a0_2, .int .i64 a0_3] 32 (0, 0)) (by (with_reducible repeat (first | refine blk_drewN ?_ _ | refine blk_drew ?_ | refine blk_alloc ?_ _)); exact BK575.out) hb); have n1_ := Aside0.mk (below_step (by repeat (first | (with_reducible first | exact HB.out | apply below_alloc | apply pw_below_drewN | apply below_drew1 | refine below_set ?_ GE575.out) | exact HB.out)) hb); clear BK575; clear HB; have BK575 := n0_; have HB := n1_; clear n0_ n1_; (try clear hb); (try clear hb2); (try clear hk); (try clear hi)) | ((with_reducible refine gate_dst (N := 7) rfl ?_); refine box_event ?hg (N := 7) ?hd (cs := #[.int .u32 0, .int .u32 0]) (t := 25) ?hr ?_; (case hd => rfl); (case hg => rfl); (case hr => first | (go_simp; done) | (go_simp; rfl)); intro gb582 hg w12 hbox hb; have n0_ := Aside0.mk (blk_below (g := gb575) (o := .cells #[.int .i64 a0_0, .int .i64 a0_1, .int .i64 a0_2, .int .i64 a0_3] 32 (0, 0)) (by (with_reducible repeat (first | refine blk_drewN ?_ _ | refine blk_drew ?_ | refine blk_alloc ?_ _)); exact BK575.out) hb); have n1_ := Aside0.mk (below_step (by repeat (first | (with_reducible first | exact HB.out | apply below_alloc | apply pw_below_drewN | apply below_drew1 | refine below_set ?_ GE575.out) | exact HB.out)) hb); have n2_ := Aside0.mk (hbox); have n3_ := Aside0.mk ((by rw [hg]; exact (below_size (by repeat (first | (with_reducible first | exact HB.out | apply below_alloc | apply pw_below_drewN | apply below_drew1 | refine below_set ?_ GE575.out) | exact HB.out))) : w.heap.size ≤ gb582)); have n4_ := Aside0.mk ((by rw [hg]; exact (below_size (by repeat (first | (with_reducible first | exact HB.out | apply below_alloc | apply pw_below_drewN | apply below_drew1 | refine below_set ?_ GE575.out) | exact HB.out))) : w.heap.size ≤ gb582)); have n5_ := Aside0.mk ((by rw [hg]; exact Nat.ne_of_lt (blk_lt (g := gb575) (o := .cells #[.int .i64 a0_0, .int .i64 a0_1, .int .i64 a0_2, .int .i64 a0_3] 32 (0, 0)) (by (with_reducible repeat (first | refine blk_drewN ?_ _ | refine blk_drew ?_ | refine blk_alloc ?_ _)); exact BK575.out)) : gb575 ≠ gb582)); have n6_ := Aside0.mk ((by rw [hg]; exact Nat.ne_of_gt (blk_lt (g := gb575) (o := .cells #[.int .i64 a0_0, .int .i64 a0_1, .int .i64 a0_2, .int .i64 a0_3] 32 (0, 0)) (by (with_reducible repeat (first | refine blk_drewN ?_ _ | refine blk_drew ?_ | refine blk_alloc ?_ _)); exact BK575.out)) : gb582 ≠ gb575)); clear BK575; clear HB; have BK575 := n0_; have HB := n1_; have BK582 := n2_; have GW582 := n3_; have GE582 := n4_; have NB575_582 := n5_; have NB582_575 := n6_; clear n0_ n1_ n2_ n3_ n4_ n5_ n6_; clear hb hbox hg; have hnb13 := NB582_575.out; have hnc13 := NB575_582.out; have hcz14_0 : w12.cell? ⟨gb582, 0, none⟩ = some (.int .u32 0) := (blk_cell BK582.out 0).trans rfl; have hcz14_1 : w12.cell? ⟨gb582, 1, none⟩ = some (.int .u32 0) := (blk_cell BK582.out 1).trans rfl; have hfz14_0 := blk_frozen BK582.out 0; have hfz14_1 := blk_frozen BK582.out 1) | (go_at_call 28; (with_reducible refine (lathelaw04_whole.calls k (wrap64 ((wrap64 ((Int.tmod a0_0 2048) * (Int.tmod a0_2 2048))) - (wrap64 ((Int.tmod a0_1 2048) * (Int.tmod a0_3 2048))))) (wrap64 ((wrap64 ((Int.tmod a0_0 2048) * (Int.tmod a0_3 2048))) + (wrap64 ((Int.tmod a0_1 2048) * (Int.tmod a0_2 2048))))) t583 t584 _ A5.out).mono ?_); clear A5; rintro e w15 ⟨rfl, hb⟩; have n0_ := Aside0.mk (blk_below (g := gb575) (o := .cells #[.int .i64 a0_0, .int .i64 a0_1, .int .i64 a0_2, .int .i64 a0_3] 32 (0, 0)) (by (with_reducible repeat (first | refine blk_drewN ?_ _ | refine blk_drew ?_ | refine blk_alloc ?_ _)); refine blk_far ?_ NB575_582.out _; (with_reducible repeat (first | refine blk_drewN ?_ _ | refine blk_drew ?_ | refine blk_alloc ?_ _)); refine blk_far ?_ NB575_582.out _; (with_reducible repeat (first | refine blk_drewN ?_ _ | refine blk_drew ?_ | refine blk_alloc ?_ _)); exact BK575.out) hb); have n1_ := Aside0.mk (blk_below (g := gb582) (o := .cells #[.int .u32 t580, .int .u32 t581] 25 (0, 0)) (by (with_reducible repeat (first | refine blk_drewN ?_ _ | refine blk_drew ?_ | refine blk_alloc ?_ _)); refine blk_put (cs := #[.int .u32 t580, .int .u32 0]) ?_ 1 _ rfl; (with_reducible repeat (first | refine blk_drewN ?_ _ | refine blk_drew ?_ | refine blk_alloc ?_ _)); refine blk_put (cs := #[.int .u32 0, .int .u32 0]) ?_ 0 _ rfl; (with_reducible repeat (first | refine blk_drewN ?_ _ | refine blk_drew ?_ | refine blk_alloc ?_ _)); exact BK582.out) hb); have n2_ := Aside0.mk (below_step (by repeat (first | (with_reducible first | exact HB.out | apply below_alloc | apply pw_below_drewN | apply below_drew1 | refine below_set ?_ GE575.out | refine below_set ?_ GE582.out) | exact HB.out)) hb); clear BK575; clear BK582; clear HB; have BK575 := n0_; have BK582 := n1_; have HB := n2_; clear n0_ n1_ n2_; (try clear hb); (try clear hb2); (try clear hk); (try clear hi)) | ((with_reducible refine gate_dst (N := 8) rfl ?_); refine box_event ?hg (N := 8) ?hd (cs := #[.int .u32 0, .int .u32 0]) (t := 25) ?hr ?_; (case hd => rfl); (case hg => rfl); (case hr => first | (go_simp; done) | (go_simp; rfl)); intro gb585 hg w16 hbox hb; have n0_ := Aside0.mk (blk_below (g := gb575) (o := .cells #[.int .i64 a0_0, .int .i64 a0_1, .int .i64 a0_2, .int .i64 a0_3] 32 (0, 0)) (by (with_reducible repeat (first | refine blk_drewN ?_ _ | refine blk_drew ?_ | refine blk_alloc ?_ _)); exact BK575.out) hb); have n1_ := Aside0.mk (blk_below (g := gb582) (o := .cells #[.int .u32 t580, .int .u32 t581] 25 (0, 0)) (by (with_reducible repeat (first | refine blk_drewN ?_ _ | refine blk_drew ?_ | refine blk_alloc ?_ _)); exact BK582.out) hb); have n2_ := Aside0.mk (below_step (by repeat (first | (with_reducible first | exact HB.out | apply below_alloc | apply pw_below_drewN | apply below_drew1 | refine below_set ?_ GE575.out | refine below_set ?_ GE582.out) | exact HB.out)) hb); have n3_ := Aside0.mk (hbox); have n4_ := Aside0.mk ((by rw [hg]; exact (below_size (by repeat (first | (with_reducible first | exact HB.out | apply below_alloc | apply pw_below_drewN | apply below_drew1 | refine below_set ?_ GE575.out | refine below_set ?_ GE582.out) | exact HB.out))) : w.heap.size ≤ gb585)); have n5_ := Aside0.mk ((by rw [hg]; exact (below_size (by repeat (first | (with_reducible first | exact HB.out | apply below_alloc | apply pw_below_drewN | apply below_drew1 | refine below_set ?_ GE575.out | refine below_set ?_ GE582.out) | exact HB.out))) : w.heap.size ≤ gb585)); have n6_ := Aside0.mk ((by rw [hg]; exact Nat.ne_of_lt (blk_lt (g := gb575) (o := .cells #[.int .i64 a0_0, .int .i64 a0_1, .int .i64 a0_2, .int .i64 a0_3] 32 (0, 0)) (by (with_reducible repeat (first | refine blk_drewN ?_ _ | refine blk_drew ?_ | refine blk_alloc ?_ _)); exact BK575.out)) : gb575 ≠ gb585)); have n7_ := Aside0.mk ((by rw [hg]; exact Nat.ne_of_gt (blk_lt (g := gb575) (o := .cells #[.int .i64 a0_0, .int .i64 a0_1, .int .i64 a0_2, .int .i64 a0_3] 32 (0, 0)) (by (with_reducible repeat (first | refine blk_drewN ?_ _ | refine blk_drew ?_ | refine blk_alloc ?_ _)); exact BK575.out)) : gb585 ≠ gb575)); have n8_ := Aside0.mk ((by rw [hg]; exact Nat.ne_of_lt (blk_lt (g := gb582) (o := .cells #[.int .u32 t580, .int .u32 t581] 25 (0, 0)) (by (with_reducible repeat (first | refine blk_drewN ?_ _ | refine blk_drew ?_ | refine blk_alloc ?_ _)); exact BK582.out)) : gb582 ≠ gb585)); have n9_ := Aside0.mk ((by rw [hg]; exact Nat.ne_of_gt (blk_lt (g := gb582) (o := .cells #[.int .u32 t580, .int .u32 t581] 25 (0, 0)) (by (with_reducible repeat (first | refine blk_drewN ?_ _ | refine blk_drew ?_ | refine blk_alloc ?_ _)); exact BK582.out)) : gb585 ≠ gb582)); clear BK575; clear BK582; clear HB; have BK575 := n0_; have BK582 := n1_; have HB := n2_; have BK585 := n3_; have GW585 := n4_; have GE585 := n5_; have NB575_585 := n6_; have NB585_575 := n7_; have NB582_585 := n8_; have NB585_582 := n9_; clear n0_ n1_ n2_ n3_ n4_ n5_ n6_ n7_ n8_ n9_; clear hb hbox hg; have hnb17 := NB585_575.out; have hnc17 := NB575_585.out; have hnb18 := NB585_582.out; have hnc18 := NB582_585.out; have hcz19_0 : w16.cell? ⟨gb585, 0, none⟩ = some (.int .u32 0) := (blk_cell BK585.out 0).trans rfl; have hcz19_1 : w16.cell? ⟨gb585, 1, none⟩ = some (.int .u32 0) := (blk_cell BK585.out 1).trans rfl; have hfz19_0 := blk_frozen BK585.out 0; have hfz19_1 := blk_frozen BK585.out 1)))
  (try simp only [Act.put, List.setIfInBounds_toArray, List.set_cons_zero, List.set_cons_succ])
  go_cut [57] (fun v57 wc => ∃ (kq : Nat) (x57_5 : Bool), v57 = .bool x57_5 ∧ Aside0 (lathelaw04_PairGauss.j0 kq (Int.tmod a0_0 2048) (Int.tmod a0_1 2048) (Int.tmod a0_2 2048) (Int.tmod a0_3 2048) x57_5 t580 t581 = some r) ∧ Aside0 (kq ≤ k) ∧ Aside0 (wc.heap[gb575]? = some (.cells #[.int .i64 a0_0, .int .i64 a0_1, .int .i64 a0_2, .int .i64 a0_3] 32 (0, 0))) ∧ Aside0 (wc.heap[gb582]? = some (.cells #[.int .u32 t580, .int .u32 t581] 25 (0, 0))) ∧ Aside0 (wc.heap[gb585]? = some (.cells #[.int .u32 t583, .int .u32 t584] 25 (0, 0))) ∧ Aside0 (Below w.heap.size w wc))
  case first =>
    have H := HC6.out
    clear HC6
    replace H := Option.bind_eq_some_iff.mp H
    obtain ⟨t586, A200, H⟩ := H
    replace H : (if t586 = true then ((lathelaw04_alike.f t581 t584).bind fun t587 => (lathelaw04_PairGauss.j0 k (Int.tmod a0_0 2048) (Int.tmod a0_1 2048) (Int.tmod a0_2 2048) (Int.tmod a0_3 2048) (!t587) t580 t581)) else (lathelaw04_PairGauss.j0 k (Int.tmod a0_0 2048) (Int.tmod a0_1 2048) (Int.tmod a0_2 2048) (Int.tmod a0_3 2048) true t580 t581)) = some r := H
    have A20 := Aside0.mk A200
    clear A200
    by_cases c21 : t586 = true
    · subst c21
      have H1 : ((lathelaw04_alike.f t581 t584).bind fun t587 => (lathelaw04_PairGauss.j0 k (Int.tmod a0_0 2048) (Int.tmod a0_1 2048) (Int.tmod a0_2 2048) (Int.tmod a0_3 2048) (!t587) t580 t581)) = some r := by rw [if_pos rfl] at H; exact H
      clear H
      have H := H1
      clear H1
      replace H := Option.bind_eq_some_iff.mp H
      obtain ⟨t587, A220, H⟩ := H
      replace H : (lathelaw04_PairGauss.j0 k (Int.tmod a0_0 2048) (Int.tmod a0_1 2048) (Int.tmod a0_2 2048) (Int.tmod a0_3 2048) (!t587) t580 t581) = some r := H
      have A22 := Aside0.mk A220
      clear A220
      have H' := Aside0.mk H
      clear H
      have hnb23 := NB582_575.out
      have hnc23 := NB575_582.out
      have hnb24 := NB582_585.out
      have hnc24 := NB585_582.out
      have hcz25_0 : w16.cell? ⟨gb582, 0, none⟩ = some (.int .u32 t580) := (blk_cell BK582.out 0).trans rfl
      have hcz25_1 : w16.cell? ⟨gb582, 1, none⟩ = some (.int .u32 t581) := (blk_cell BK582.out 1).trans rfl
      have hfz25_0 := blk_frozen BK582.out 0
      have hfz25_1 := blk_frozen BK582.out 1
      have hnb26 := NB585_575.out
      have hnc26 := NB575_585.out
      have hcz27_0 : w16.cell? ⟨gb585, 0, none⟩ = some (.int .u32 0) := (blk_cell BK585.out 0).trans rfl
      have hcz27_1 : w16.cell? ⟨gb585, 1, none⟩ = some (.int .u32 0) := (blk_cell BK585.out 1).trans rfl
      have hfz27_0 := blk_frozen BK585.out 0
      have hfz27_1 := blk_frozen BK585.out 1
      go_wp2_with (first | (go_at_call 29; (with_reducible refine (lathelaw04_alike.calls t580 t583 true _ A20.out).mono ?_); clear A20; rintro e w' ⟨rfl, ⟨nd, rfl⟩⟩; (try first | exact ⟨rfl, _, World.drewN_drewN _ _ _⟩ | exact ⟨rfl, _, Eq.trans (World.drewN_drewN _ _ _) (congrArg (World.drewN _) (Nat.add_assoc _ _ _))⟩)) | (go_at_call 29; (with_reducible refine (lathelaw04_alike.calls t581 t584 t587 _ A22.out).mono ?_); clear A22; rintro e w' ⟨rfl, ⟨nd, rfl⟩⟩; (try first | exact ⟨rfl, _, World.drewN_drewN _ _ _⟩ | exact ⟨rfl, _, Eq.trans (World.drewN_drewN _ _ _) (congrArg (World.drewN _) (Nat.add_assoc _ _ _))⟩)))
      repeat (go_quiet (first | (go_at_call 29; (with_reducible refine (lathelaw04_alike.calls t580 t583 true _ A20.out).mono ?_); clear A20; rintro e w' ⟨rfl, ⟨nd, rfl⟩⟩; (try first | exact ⟨rfl, _, World.drewN_drewN _ _ _⟩ | exact ⟨rfl, _, Eq.trans (World.drewN_drewN _ _ _) (congrArg (World.drewN _) (Nat.add_assoc _ _ _))⟩)) | (go_at_call 29; (with_reducible refine (lathelaw04_alike.calls t581 t584 t587 _ A22.out).mono ?_); clear A22; rintro e w' ⟨rfl, ⟨nd, rfl⟩⟩; (try first | exact ⟨rfl, _, World.drewN_drewN _ _ _⟩ | exact ⟨rfl, _, Eq.trans (World.drewN_drewN _ _ _) (congrArg (World.drewN _) (Nat.add_assoc _ _ _))⟩))); try go_wp2_with (first | (go_at_call 29; (with_reducible refine (lathelaw04_alike.calls t580 t583 true _ A20.out).mono ?_); clear A20; rintro e w' ⟨rfl, ⟨nd, rfl⟩⟩; (try first | exact ⟨rfl, _, World.drewN_drewN _ _ _⟩ | exact ⟨rfl, _, Eq.trans (World.drewN_drewN _ _ _) (congrArg (World.drewN _) (Nat.add_assoc _ _ _))⟩)) | (go_at_call 29; (with_reducible refine (lathelaw04_alike.calls t581 t584 t587 _ A22.out).mono ?_); clear A22; rintro e w' ⟨rfl, ⟨nd, rfl⟩⟩; (try first | exact ⟨rfl, _, World.drewN_drewN _ _ _⟩ | exact ⟨rfl, _, Eq.trans (World.drewN_drewN _ _ _) (congrArg (World.drewN _) (Nat.add_assoc _ _ _))⟩))))
      go_meet
      case rel => exact ⟨_, (!t587), (by first | rfl | (simp; done) | (simp [*]; done)), H', ⟨by first | omega | exact Nat.le_refl _⟩, ⟨by (with_reducible repeat (first | refine blk_drewN ?_ _ | refine blk_drew ?_ | refine blk_alloc ?_ _)); refine blk_far ?_ NB575_585.out _; (with_reducible repeat (first | refine blk_drewN ?_ _ | refine blk_drew ?_ | refine blk_alloc ?_ _)); refine blk_far ?_ NB575_585.out _; (with_reducible repeat (first | refine blk_drewN ?_ _ | refine blk_drew ?_ | refine blk_alloc ?_ _)); exact BK575.out⟩, ⟨by (with_reducible repeat (first | refine blk_drewN ?_ _ | refine blk_drew ?_ | refine blk_alloc ?_ _)); refine blk_far ?_ NB582_585.out _; (with_reducible repeat (first | refine blk_drewN ?_ _ | refine blk_drew ?_ | refine blk_alloc ?_ _)); refine blk_far ?_ NB582_585.out _; (with_reducible repeat (first | refine blk_drewN ?_ _ | refine blk_drew ?_ | refine blk_alloc ?_ _)); exact BK582.out⟩, ⟨by (with_reducible repeat (first | refine blk_drewN ?_ _ | refine blk_drew ?_ | refine blk_alloc ?_ _)); refine blk_put (cs := #[.int .u32 t583, .int .u32 0]) ?_ 1 _ rfl; (with_reducible repeat (first | refine blk_drewN ?_ _ | refine blk_drew ?_ | refine blk_alloc ?_ _)); refine blk_put (cs := #[.int .u32 0, .int .u32 0]) ?_ 0 _ rfl; (with_reducible repeat (first | refine blk_drewN ?_ _ | refine blk_drew ?_ | refine blk_alloc ?_ _)); exact BK585.out⟩, ⟨by repeat (first | (with_reducible first | exact HB.out | apply below_alloc | apply pw_below_drewN | apply below_drew1 | refine below_set ?_ GE575.out | refine below_set ?_ GE582.out | refine below_set ?_ GE585.out) | exact HB.out)⟩⟩
    · replace c21 := Bool.eq_false_iff.mpr c21
      subst c21
      have H1 : (lathelaw04_PairGauss.j0 k (Int.tmod a0_0 2048) (Int.tmod a0_1 2048) (Int.tmod a0_2 2048) (Int.tmod a0_3 2048) true t580 t581) = some r := by rw [if_neg (show ¬ (false = true) by decide)] at H; exact H
      clear H
      have H := H1
      clear H1
      have H' := Aside0.mk H
      clear H
      have hnb28 := NB582_575.out
      have hnc28 := NB575_582.out
      have hnb29 := NB582_585.out
      have hnc29 := NB585_582.out
      have hcz30_0 : w16.cell? ⟨gb582, 0, none⟩ = some (.int .u32 t580) := (blk_cell BK582.out 0).trans rfl
      have hcz30_1 : w16.cell? ⟨gb582, 1, none⟩ = some (.int .u32 t581) := (blk_cell BK582.out 1).trans rfl
      have hfz30_0 := blk_frozen BK582.out 0
      have hfz30_1 := blk_frozen BK582.out 1
      have hnb31 := NB585_575.out
      have hnc31 := NB575_585.out
      have hcz32_0 : w16.cell? ⟨gb585, 0, none⟩ = some (.int .u32 0) := (blk_cell BK585.out 0).trans rfl
      have hcz32_1 : w16.cell? ⟨gb585, 1, none⟩ = some (.int .u32 0) := (blk_cell BK585.out 1).trans rfl
      have hfz32_0 := blk_frozen BK585.out 0
      have hfz32_1 := blk_frozen BK585.out 1
      go_wp2_with (first | (go_at_call 29; (with_reducible refine (lathelaw04_alike.calls t580 t583 false _ A20.out).mono ?_); clear A20; rintro e w' ⟨rfl, ⟨nd, rfl⟩⟩; (try first | exact ⟨rfl, _, World.drewN_drewN _ _ _⟩ | exact ⟨rfl, _, Eq.trans (World.drewN_drewN _ _ _) (congrArg (World.drewN _) (Nat.add_assoc _ _ _))⟩)))
      repeat (go_quiet (first | (go_at_call 29; (with_reducible refine (lathelaw04_alike.calls t580 t583 false _ A20.out).mono ?_); clear A20; rintro e w' ⟨rfl, ⟨nd, rfl⟩⟩; (try first | exact ⟨rfl, _, World.drewN_drewN _ _ _⟩ | exact ⟨rfl, _, Eq.trans (World.drewN_drewN _ _ _) (congrArg (World.drewN _) (Nat.add_assoc _ _ _))⟩))); try go_wp2_with (first | (go_at_call 29; (with_reducible refine (lathelaw04_alike.calls t580 t583 false _ A20.out).mono ?_); clear A20; rintro e w' ⟨rfl, ⟨nd, rfl⟩⟩; (try first | exact ⟨rfl, _, World.drewN_drewN _ _ _⟩ | exact ⟨rfl, _, Eq.trans (World.drewN_drewN _ _ _) (congrArg (World.drewN _) (Nat.add_assoc _ _ _))⟩))))
      go_meet
      case rel => exact ⟨_, (true), (by first | rfl | (simp; done) | (simp [*]; done)), H', ⟨by first | omega | exact Nat.le_refl _⟩, ⟨by (with_reducible repeat (first | refine blk_drewN ?_ _ | refine blk_drew ?_ | refine blk_alloc ?_ _)); refine blk_far ?_ NB575_585.out _; (with_reducible repeat (first | refine blk_drewN ?_ _ | refine blk_drew ?_ | refine blk_alloc ?_ _)); refine blk_far ?_ NB575_585.out _; (with_reducible repeat (first | refine blk_drewN ?_ _ | refine blk_drew ?_ | refine blk_alloc ?_ _)); exact BK575.out⟩, ⟨by (with_reducible repeat (first | refine blk_drewN ?_ _ | refine blk_drew ?_ | refine blk_alloc ?_ _)); refine blk_far ?_ NB582_585.out _; (with_reducible repeat (first | refine blk_drewN ?_ _ | refine blk_drew ?_ | refine blk_alloc ?_ _)); refine blk_far ?_ NB582_585.out _; (with_reducible repeat (first | refine blk_drewN ?_ _ | refine blk_drew ?_ | refine blk_alloc ?_ _)); exact BK582.out⟩, ⟨by (with_reducible repeat (first | refine blk_drewN ?_ _ | refine blk_drew ?_ | refine blk_alloc ?_ _)); refine blk_put (cs := #[.int .u32 t583, .int .u32 0]) ?_ 1 _ rfl; (with_reducible repeat (first | refine blk_drewN ?_ _ | refine blk_drew ?_ | refine blk_alloc ?_ _)); refine blk_put (cs := #[.int .u32 0, .int .u32 0]) ?_ 0 _ rfl; (with_reducible repeat (first | refine blk_drewN ?_ _ | refine blk_drew ?_ | refine blk_alloc ?_ _)); exact BK585.out⟩, ⟨by repeat (first | (with_reducible first | exact HB.out | apply below_alloc | apply pw_below_drewN | apply below_drew1 | refine below_set ?_ GE575.out | refine below_set ?_ GE582.out | refine below_set ?_ GE585.out) | exact HB.out)⟩⟩
  case rest =>
    clear HC6
    try clear c1
    try clear c2
    try clear p2
    try clear c3
    try clear c4
    try clear p6
    try clear c13
    try clear c17
    try clear c18
    try clear c21
    try clear c23
    try clear c24
    try clear c26
    try clear c28
    try clear c29
    try clear c31
    try clear hcz14_0
    try clear hcz14_1
    try clear hcz19_0
    try clear hcz19_1
    try clear hcz25_0
    try clear hcz25_1
    try clear hcz27_0
    try clear hcz27_1
    try clear hcz30_0
    try clear hcz30_1
    try clear hcz32_0
    try clear hcz32_1
    try clear hcz8_0
    try clear hcz8_1
    try clear hcz8_2
    try clear hcz8_3
    try clear hfz14_0
    try clear hfz14_1
    try clear hfz19_0
    try clear hfz19_1
    try clear hfz25_0
    try clear hfz25_1
    try clear hfz27_0
    try clear hfz27_1
    try clear hfz30_0
    try clear hfz30_1
    try clear hfz32_0
    try clear hfz32_1
    try clear hfz8_0
    try clear hfz8_1
    try clear hfz8_2
    try clear hfz8_3
    obtain ⟨kq, x57_5, rfl, HA, HJ5, BK575, BK582, BK585, HB⟩ := hcut
    cases kq with
    | zero => exact absurd HA.out (by simp [lathelaw04_PairGauss.j0])
    | succ kj5 =>
      have H := HA.out
      clear HA
      simp only [lathelaw04_PairGauss.j0] at H
      by_cases c33 : x57_5 = true
      · subst c33
        have H1 : (some false) = some r := by rw [if_pos rfl] at H; exact H
        clear H
        have H := H1
        clear H1
        obtain rfl := Option.some.inj H
        go_wp2
        repeat (go_quiet (fail); try go_wp2)
        go_ret
        exact ⟨by first | rfl | (simp [errW_none, errW_some] <;> rfl) | (simp [*, errW_none, errW_some] <;> rfl), by repeat (first | (with_reducible first | exact HB.out | apply below_alloc | apply pw_below_drewN | apply below_drew1 | refine below_set ?_ GE575.out | refine below_set ?_ GE582.out | refine below_set ?_ GE585.out) | exact HB.out)⟩
      · replace c33 := Bool.eq_false_iff.mpr c33
        subst c33
        have H1 : (if (wrap64 ((wrap64 ((wrap64 ((Int.tmod a0_0 2048) * (Int.tmod a0_0 2048))) + (wrap64 ((Int.tmod a0_1 2048) * (Int.tmod a0_1 2048))))) * (wrap64 ((wrap64 ((Int.tmod a0_2 2048) * (Int.tmod a0_2 2048))) + (wrap64 ((Int.tmod a0_3 2048) * (Int.tmod a0_3 2048))))))) ≥ 16777216 then ((lathelaw04_works.f).bind fun t588 => (some t588)) else ((pair_Square.f t580 t581).bind fun t589 => ((latheref02_FromInt.f kj5 (wrap64 ((wrap64 ((wrap64 ((Int.tmod a0_0 2048) * (Int.tmod a0_0 2048))) + (wrap64 ((Int.tmod a0_1 2048) * (Int.tmod a0_1 2048))))) * (wrap64 ((wrap64 ((Int.tmod a0_2 2048) * (Int.tmod a0_2 2048))) + (wrap64 ((Int.tmod a0_3 2048) * (Int.tmod a0_3 2048)))))))).bind fun t590 => (if (wrap64 (t589)) = t590 then ((lathelaw04_works.f).bind fun t591 => (some t591)) else (some false))))) = some r := by rw [if_neg (show ¬ (false = true) by decide)] at H; exact H
        clear H
        have H := H1
        clear H1
        by_cases c34 : (wrap64 ((wrap64 ((wrap64 ((Int.tmod a0_0 2048) * (Int.tmod a0_0 2048))) + (wrap64 ((Int.tmod a0_1 2048) * (Int.tmod a0_1 2048))))) * (wrap64 ((wrap64 ((Int.tmod a0_2 2048) * (Int.tmod a0_2 2048))) + (wrap64 ((Int.tmod a0_3 2048) * (Int.tmod a0_3 2048))))))) ≥ 16777216
        · rw [if_pos c34] at H
          have c34b0 : decide (16777216 ≤ (wrap64 ((wrap64 ((wrap64 ((Int.tmod a0_0 2048) * (Int.tmod a0_0 2048))) + (wrap64 ((Int.tmod a0_1 2048) * (Int.tmod a0_1 2048))))) * (wrap64 ((wrap64 ((Int.tmod a0_2 2048) * (Int.tmod a0_2 2048))) + (wrap64 ((Int.tmod a0_3 2048) * (Int.tmod a0_3 2048)))))))) = true := decide_eq_true c34
          clear c34
          replace H := Option.bind_eq_some_iff.mp H
          obtain ⟨t588, A350, H⟩ := H
          replace H : (some t588) = some r := H
          have A35 := Aside0.mk A350
          clear A350
          obtain rfl := Option.some.inj H
          go_wp2_with (first | (go_at_call 27; (with_reducible refine (lathelaw04_works.calls  t588 _ A35.out).mono ?_); clear A35; rintro e w36 ⟨rfl, hb⟩; have n0_ := Aside0.mk (blk_below (g := gb575) (o := .cells #[.int .i64 a0_0, .int .i64 a0_1, .int .i64 a0_2, .int .i64 a0_3] 32 (0, 0)) (by (with_reducible repeat (first | refine blk_drewN ?_ _ | refine blk_drew ?_ | refine blk_alloc ?_ _)); exact BK575.out) hb); have n1_ := Aside0.mk (blk_below (g := gb582) (o := .cells #[.int .u32 t580, .int .u32 t581] 25 (0, 0)) (by (with_reducible repeat (first | refine blk_drewN ?_ _ | refine blk_drew ?_ | refine blk_alloc ?_ _)); exact BK582.out) hb); have n2_ := Aside0.mk (blk_below (g := gb585) (o := .cells #[.int .u32 t583, .int .u32 t584] 25 (0, 0)) (by (with_reducible repeat (first | refine blk_drewN ?_ _ | refine blk_drew ?_ | refine blk_alloc ?_ _)); exact BK585.out) hb); have n3_ := Aside0.mk (below_step (by repeat (first | (with_reducible first | exact HB.out | apply below_alloc | apply pw_below_drewN | apply below_drew1 | refine below_set ?_ GE575.out | refine below_set ?_ GE582.out | refine below_set ?_ GE585.out) | exact HB.out)) hb); clear BK575; clear BK582; clear BK585; clear HB; have BK575 := n0_; have BK582 := n1_; have BK585 := n2_; have HB := n3_; clear n0_ n1_ n2_ n3_; (try clear hb); (try clear hb2); (try clear hk); (try clear hi)))
          repeat (go_quiet (first | (go_at_call 27; (with_reducible refine (lathelaw04_works.calls  t588 _ A35.out).mono ?_); clear A35; rintro e w36 ⟨rfl, hb⟩; have n0_ := Aside0.mk (blk_below (g := gb575) (o := .cells #[.int .i64 a0_0, .int .i64 a0_1, .int .i64 a0_2, .int .i64 a0_3] 32 (0, 0)) (by (with_reducible repeat (first | refine blk_drewN ?_ _ | refine blk_drew ?_ | refine blk_alloc ?_ _)); exact BK575.out) hb); have n1_ := Aside0.mk (blk_below (g := gb582) (o := .cells #[.int .u32 t580, .int .u32 t581] 25 (0, 0)) (by (with_reducible repeat (first | refine blk_drewN ?_ _ | refine blk_drew ?_ | refine blk_alloc ?_ _)); exact BK582.out) hb); have n2_ := Aside0.mk (blk_below (g := gb585) (o := .cells #[.int .u32 t583, .int .u32 t584] 25 (0, 0)) (by (with_reducible repeat (first | refine blk_drewN ?_ _ | refine blk_drew ?_ | refine blk_alloc ?_ _)); exact BK585.out) hb); have n3_ := Aside0.mk (below_step (by repeat (first | (with_reducible first | exact HB.out | apply below_alloc | apply pw_below_drewN | apply below_drew1 | refine below_set ?_ GE575.out | refine below_set ?_ GE582.out | refine below_set ?_ GE585.out) | exact HB.out)) hb); clear BK575; clear BK582; clear BK585; clear HB; have BK575 := n0_; have BK582 := n1_; have BK585 := n2_; have HB := n3_; clear n0_ n1_ n2_ n3_; (try clear hb); (try clear hb2); (try clear hk); (try clear hi))); try go_wp2_with (first | (go_at_call 27; (with_reducible refine (lathelaw04_works.calls  t588 _ A35.out).mono ?_); clear A35; rintro e w36 ⟨rfl, hb⟩; have n0_ := Aside0.mk (blk_below (g := gb575) (o := .cells #[.int .i64 a0_0, .int .i64 a0_1, .int .i64 a0_2, .int .i64 a0_3] 32 (0, 0)) (by (with_reducible repeat (first | refine blk_drewN ?_ _ | refine blk_drew ?_ | refine blk_alloc ?_ _)); exact BK575.out) hb); have n1_ := Aside0.mk (blk_below (g := gb582) (o := .cells #[.int .u32 t580, .int .u32 t581] 25 (0, 0)) (by (with_reducible repeat (first | refine blk_drewN ?_ _ | refine blk_drew ?_ | refine blk_alloc ?_ _)); exact BK582.out) hb); have n2_ := Aside0.mk (blk_below (g := gb585) (o := .cells #[.int .u32 t583, .int .u32 t584] 25 (0, 0)) (by (with_reducible repeat (first | refine blk_drewN ?_ _ | refine blk_drew ?_ | refine blk_alloc ?_ _)); exact BK585.out) hb); have n3_ := Aside0.mk (below_step (by repeat (first | (with_reducible first | exact HB.out | apply below_alloc | apply pw_below_drewN | apply below_drew1 | refine below_set ?_ GE575.out | refine below_set ?_ GE582.out | refine below_set ?_ GE585.out) | exact HB.out)) hb); clear BK575; clear BK582; clear BK585; clear HB; have BK575 := n0_; have BK582 := n1_; have BK585 := n2_; have HB := n3_; clear n0_ n1_ n2_ n3_; (try clear hb); (try clear hb2); (try clear hk); (try clear hi))))
          go_ret
          exact ⟨by first | rfl | (simp [errW_none, errW_some] <;> rfl) | (simp [*, errW_none, errW_some] <;> rfl), by repeat (first | (with_reducible first | exact HB.out | apply below_alloc | apply pw_below_drewN | apply below_drew1 | refine below_set ?_ GE575.out | refine below_set ?_ GE582.out | refine below_set ?_ GE585.out) | exact HB.out)⟩
        · rw [if_neg c34] at H
          have c34b0 : decide (16777216 ≤ (wrap64 ((wrap64 ((wrap64 ((Int.tmod a0_0 2048) * (Int.tmod a0_0 2048))) + (wrap64 ((Int.tmod a0_1 2048) * (Int.tmod a0_1 2048))))) * (wrap64 ((wrap64 ((Int.tmod a0_2 2048) * (Int.tmod a0_2 2048))) + (wrap64 ((Int.tmod a0_3 2048) * (Int.tmod a0_3 2048)))))))) = false := decide_eq_false c34
          clear c34
          replace H := Option.bind_eq_some_iff.mp H
          obtain ⟨t589, A370, H⟩ := H
          replace H : ((latheref02_FromInt.f kj5 (wrap64 ((wrap64 ((wrap64 ((Int.tmod a0_0 2048) * (Int.tmod a0_0 2048))) + (wrap64 ((Int.tmod a0_1 2048) * (Int.tmod a0_1 2048))))) * (wrap64 ((wrap64 ((Int.tmod a0_2 2048) * (Int.tmod a0_2 2048))) + (wrap64 ((Int.tmod a0_3 2048) * (Int.tmod a0_3 2048)))))))).bind fun t590 => (if (wrap64 (t589)) = t590 then ((lathelaw04_works.f).bind fun t591 => (some t591)) else (some false))) = some r := H
          have A37 := Aside0.mk A370
          clear A370
          replace H := Option.bind_eq_some_iff.mp H
          obtain ⟨t590, A380, H⟩ := H
          replace H : (if (wrap64 (t589)) = t590 then ((lathelaw04_works.f).bind fun t591 => (some t591)) else (some false)) = some r := H
          have A38 := Aside0.mk A380
          clear A380
          by_cases c39 : (wrap64 (t589)) = t590
          · rw [if_pos c39] at H
            have c39b0 : ((wrap64 (t589)) == t590) = true := beq_iff_eq.mpr c39
            have c39b1 : ((wrap64 (t589)) != t590) = false := bne_eq_false_iff_eq.mpr c39
            clear c39
            replace H := Option.bind_eq_some_iff.mp H
            obtain ⟨t591, A400, H⟩ := H
            replace H : (some t591) = some r := H
            have A40 := Aside0.mk A400
            clear A400
            obtain rfl := Option.some.inj H
            have hnb41 := NB582_575.out
            have hnc41 := NB575_582.out
            have hnb42 := NB582_585.out
            have hnc42 := NB585_582.out
            have hcz43_0 : wc.cell? ⟨gb582, 0, none⟩ = some (.int .u32 t580) := (blk_cell BK582.out 0).trans rfl
            have hcz43_1 : wc.cell? ⟨gb582, 1, none⟩ = some (.int .u32 t581) := (blk_cell BK582.out 1).trans rfl
            have hfz43_0 := blk_frozen BK582.out 0
            have hfz43_1 := blk_frozen BK582.out 1
            go_wp2_with (first | (go_at_call 25; (with_reducible refine (pair_Square.calls t580 t581 t589 _ A37.out).mono ?_); clear A37; rintro e w44 ⟨rfl, hb⟩; have n0_ := Aside0.mk (blk_below (g := gb575) (o := .cells #[.int .i64 a0_0, .int .i64 a0_1, .int .i64 a0_2, .int .i64 a0_3] 32 (0, 0)) (by (with_reducible repeat (first | refine blk_drewN ?_ _ | refine blk_drew ?_ | refine blk_alloc ?_ _)); exact BK575.out) hb); have n1_ := Aside0.mk (blk_below (g := gb582) (o := .cells #[.int .u32 t580, .int .u32 t581] 25 (0, 0)) (by (with_reducible repeat (first | refine blk_drewN ?_ _ | refine blk_drew ?_ | refine blk_alloc ?_ _)); exact BK582.out) hb); have n2_ := Aside0.mk (blk_below (g := gb585) (o := .cells #[.int .u32 t583, .int .u32 t584] 25 (0, 0)) (by (with_reducible repeat (first | refine blk_drewN ?_ _ | refine blk_drew ?_ | refine blk_alloc ?_ _)); exact BK585.out) hb); have n3_ := Aside0.mk (below_step (by repeat (first | (with_reducible first | exact HB.out | apply below_alloc | apply pw_below_drewN | apply below_drew1 | refine below_set ?_ GE575.out | refine below_set ?_ GE582.out | refine below_set ?_ GE585.out) | exact HB.out)) hb); clear BK575; clear BK582; clear BK585; clear HB; have BK575 := n0_; have BK582 := n1_; have BK585 := n2_; have HB := n3_; clear n0_ n1_ n2_ n3_; (try clear hb); (try clear hb2); (try clear hk); (try clear hi)) | (go_at_call 30; (with_reducible refine (latheref02_FromInt.calls kj5 (wrap64 ((wrap64 ((wrap64 ((Int.tmod a0_0 2048) * (Int.tmod a0_0 2048))) + (wrap64 ((Int.tmod a0_1 2048) * (Int.tmod a0_1 2048))))) * (wrap64 ((wrap64 ((Int.tmod a0_2 2048) * (Int.tmod a0_2 2048))) + (wrap64 ((Int.tmod a0_3 2048) * (Int.tmod a0_3 2048))))))) t590 _ A38.out).mono ?_); clear A38; rintro e w45 ⟨rfl, hb⟩; have n0_ := Aside0.mk (blk_below (g := gb575) (o := .cells #[.int .i64 a0_0, .int .i64 a0_1, .int .i64 a0_2, .int .i64 a0_3] 32 (0, 0)) (by (with_reducible repeat (first | refine blk_drewN ?_ _ | refine blk_drew ?_ | refine blk_alloc ?_ _)); exact BK575.out) hb); have n1_ := Aside0.mk (blk_below (g := gb582) (o := .cells #[.int .u32 t580, .int .u32 t581] 25 (0, 0)) (by (with_reducible repeat (first | refine blk_drewN ?_ _ | refine blk_drew ?_ | refine blk_alloc ?_ _)); exact BK582.out) hb); have n2_ := Aside0.mk (blk_below (g := gb585) (o := .cells #[.int .u32 t583, .int .u32 t584] 25 (0, 0)) (by (with_reducible repeat (first | refine blk_drewN ?_ _ | refine blk_drew ?_ | refine blk_alloc ?_ _)); exact BK585.out) hb); have n3_ := Aside0.mk (below_step (by repeat (first | (with_reducible first | exact HB.out | apply below_alloc | apply pw_below_drewN | apply below_drew1 | refine below_set ?_ GE575.out | refine below_set ?_ GE582.out | refine below_set ?_ GE585.out) | exact HB.out)) hb); clear BK575; clear BK582; clear BK585; clear HB; have BK575 := n0_; have BK582 := n1_; have BK585 := n2_; have HB := n3_; clear n0_ n1_ n2_ n3_; (try clear hb); (try clear hb2); (try clear hk); (try clear hi)) | (go_at_call 27; (with_reducible refine (lathelaw04_works.calls  t591 _ A40.out).mono ?_); clear A40; rintro e w46 ⟨rfl, hb⟩; have n0_ := Aside0.mk (blk_below (g := gb575) (o := .cells #[.int .i64 a0_0, .int .i64 a0_1, .int .i64 a0_2, .int .i64 a0_3] 32 (0, 0)) (by (with_reducible repeat (first | refine blk_drewN ?_ _ | refine blk_drew ?_ | refine blk_alloc ?_ _)); exact BK575.out) hb); have n1_ := Aside0.mk (blk_below (g := gb582) (o := .cells #[.int .u32 t580, .int .u32 t581] 25 (0, 0)) (by (with_reducible repeat (first | refine blk_drewN ?_ _ | refine blk_drew ?_ | refine blk_alloc ?_ _)); exact BK582.out) hb); have n2_ := Aside0.mk (blk_below (g := gb585) (o := .cells #[.int .u32 t583, .int .u32 t584] 25 (0, 0)) (by (with_reducible repeat (first | refine blk_drewN ?_ _ | refine blk_drew ?_ | refine blk_alloc ?_ _)); exact BK585.out) hb); have n3_ := Aside0.mk (below_step (by repeat (first | (with_reducible first | exact HB.out | apply below_alloc | apply pw_below_drewN | apply below_drew1 | refine below_set ?_ GE575.out | refine below_set ?_ GE582.out | refine below_set ?_ GE585.out) | exact HB.out)) hb); clear BK575; clear BK582; clear BK585; clear HB; have BK575 := n0_; have BK582 := n1_; have BK585 := n2_; have HB := n3_; clear n0_ n1_ n2_ n3_; (try clear hb); (try clear hb2); (try clear hk); (try clear hi)))
            repeat (go_quiet (first | (go_at_call 25; (with_reducible refine (pair_Square.calls t580 t581 t589 _ A37.out).mono ?_); clear A37; rintro e w44 ⟨rfl, hb⟩; have n0_ := Aside0.mk (blk_below (g := gb575) (o := .cells #[.int .i64 a0_0, .int .i64 a0_1, .int .i64 a0_2, .int .i64 a0_3] 32 (0, 0)) (by (with_reducible repeat (first | refine blk_drewN ?_ _ | refine blk_drew ?_ | refine blk_alloc ?_ _)); exact BK575.out) hb); have n1_ := Aside0.mk (blk_below (g := gb582) (o := .cells #[.int .u32 t580, .int .u32 t581] 25 (0, 0)) (by (with_reducible repeat (first | refine blk_drewN ?_ _ | refine blk_drew ?_ | refine blk_alloc ?_ _)); exact BK582.out) hb); have n2_ := Aside0.mk (blk_below (g := gb585) (o := .cells #[.int .u32 t583, .int .u32 t584] 25 (0, 0)) (by (with_reducible repeat (first | refine blk_drewN ?_ _ | refine blk_drew ?_ | refine blk_alloc ?_ _)); exact BK585.out) hb); have n3_ := Aside0.mk (below_step (by repeat (first | (with_reducible first | exact HB.out | apply below_alloc | apply pw_below_drewN | apply below_drew1 | refine below_set ?_ GE575.out | refine below_set ?_ GE582.out | refine below_set ?_ GE585.out) | exact HB.out)) hb); clear BK575; clear BK582; clear BK585; clear HB; have BK575 := n0_; have BK582 := n1_; have BK585 := n2_; have HB := n3_; clear n0_ n1_ n2_ n3_; (try clear hb); (try clear hb2); (try clear hk); (try clear hi)) | (go_at_call 30; (with_reducible refine (latheref02_FromInt.calls kj5 (wrap64 ((wrap64 ((wrap64 ((Int.tmod a0_0 2048) * (Int.tmod a0_0 2048))) + (wrap64 ((Int.tmod a0_1 2048) * (Int.tmod a0_1 2048))))) * (wrap64 ((wrap64 ((Int.tmod a0_2 2048) * (Int.tmod a0_2 2048))) + (wrap64 ((Int.tmod a0_3 2048) * (Int.tmod a0_3 2048))))))) t590 _ A38.out).mono ?_); clear A38; rintro e w45 ⟨rfl, hb⟩; have n0_ := Aside0.mk (blk_below (g := gb575) (o := .cells #[.int .i64 a0_0, .int .i64 a0_1, .int .i64 a0_2, .int .i64 a0_3] 32 (0, 0)) (by (with_reducible repeat (first | refine blk_drewN ?_ _ | refine blk_drew ?_ | refine blk_alloc ?_ _)); exact BK575.out) hb); have n1_ := Aside0.mk (blk_below (g := gb582) (o := .cells #[.int .u32 t580, .int .u32 t581] 25 (0, 0)) (by (with_reducible repeat (first | refine blk_drewN ?_ _ | refine blk_drew ?_ | refine blk_alloc ?_ _)); exact BK582.out) hb); have n2_ := Aside0.mk (blk_below (g := gb585) (o := .cells #[.int .u32 t583, .int .u32 t584] 25 (0, 0)) (by (with_reducible repeat (first | refine blk_drewN ?_ _ | refine blk_drew ?_ | refine blk_alloc ?_ _)); exact BK585.out) hb); have n3_ := Aside0.mk (below_step (by repeat (first | (with_reducible first | exact HB.out | apply below_alloc | apply pw_below_drewN | apply below_drew1 | refine below_set ?_ GE575.out | refine below_set ?_ GE582.out | refine below_set ?_ GE585.out) | exact HB.out)) hb); clear BK575; clear BK582; clear BK585; clear HB; have BK575 := n0_; have BK582 := n1_; have BK585 := n2_; have HB := n3_; clear n0_ n1_ n2_ n3_; (try clear hb); (try clear hb2); (try clear hk); (try clear hi)) | (go_at_call 27; (with_reducible refine (lathelaw04_works.calls  t591 _ A40.out).mono ?_); clear A40; rintro e w46 ⟨rfl, hb⟩; have n0_ := Aside0.mk (blk_below (g := gb575) (o := .cells #[.int .i64 a0_0, .int .i64 a0_1, .int .i64 a0_2, .int .i64 a0_3] 32 (0, 0)) (by (with_reducible repeat (first | refine blk_drewN ?_ _ | refine blk_drew ?_ | refine blk_alloc ?_ _)); exact BK575.out) hb); have n1_ := Aside0.mk (blk_below (g := gb582) (o := .cells #[.int .u32 t580, .int .u32 t581] 25 (0, 0)) (by (with_reducible repeat (first | refine blk_drewN ?_ _ | refine blk_drew ?_ | refine blk_alloc ?_ _)); exact BK582.out) hb); have n2_ := Aside0.mk (blk_below (g := gb585) (o := .cells #[.int .u32 t583, .int .u32 t584] 25 (0, 0)) (by (with_reducible repeat (first | refine blk_drewN ?_ _ | refine blk_drew ?_ | refine blk_alloc ?_ _)); exact BK585.out) hb); have n3_ := Aside0.mk (below_step (by repeat (first | (with_reducible first | exact HB.out | apply below_alloc | apply pw_below_drewN | apply below_drew1 | refine below_set ?_ GE575.out | refine below_set ?_ GE582.out | refine below_set ?_ GE585.out) | exact HB.out)) hb); clear BK575; clear BK582; clear BK585; clear HB; have BK575 := n0_; have BK582 := n1_; have BK585 := n2_; have HB := n3_; clear n0_ n1_ n2_ n3_; (try clear hb); (try clear hb2); (try clear hk); (try clear hi))); try go_wp2_with (first | (go_at_call 25; (with_reducible refine (pair_Square.calls t580 t581 t589 _ A37.out).mono ?_); clear A37; rintro e w44 ⟨rfl, hb⟩; have n0_ := Aside0.mk (blk_below (g := gb575) (o := .cells #[.int .i64 a0_0, .int .i64 a0_1, .int .i64 a0_2, .int .i64 a0_3] 32 (0, 0)) (by (with_reducible repeat (first | refine blk_drewN ?_ _ | refine blk_drew ?_ | refine blk_alloc ?_ _)); exact BK575.out) hb); have n1_ := Aside0.mk (blk_below (g := gb582) (o := .cells #[.int .u32 t580, .int .u32 t581] 25 (0, 0)) (by (with_reducible repeat (first | refine blk_drewN ?_ _ | refine blk_drew ?_ | refine blk_alloc ?_ _)); exact BK582.out) hb); have n2_ := Aside0.mk (blk_below (g := gb585) (o := .cells #[.int .u32 t583, .int .u32 t584] 25 (0, 0)) (by (with_reducible repeat (first | refine blk_drewN ?_ _ | refine blk_drew ?_ | refine blk_alloc ?_ _)); exact BK585.out) hb); have n3_ := Aside0.mk (below_step (by repeat (first | (with_reducible first | exact HB.out | apply below_alloc | apply pw_below_drewN | apply below_drew1 | refine below_set ?_ GE575.out | refine below_set ?_ GE582.out | refine below_set ?_ GE585.out) | exact HB.out)) hb); clear BK575; clear BK582; clear BK585; clear HB; have BK575 := n0_; have BK582 := n1_; have BK585 := n2_; have HB := n3_; clear n0_ n1_ n2_ n3_; (try clear hb); (try clear hb2); (try clear hk); (try clear hi)) | (go_at_call 30; (with_reducible refine (latheref02_FromInt.calls kj5 (wrap64 ((wrap64 ((wrap64 ((Int.tmod a0_0 2048) * (Int.tmod a0_0 2048))) + (wrap64 ((Int.tmod a0_1 2048) * (Int.tmod a0_1 2048))))) * (wrap64 ((wrap64 ((Int.tmod a0_2 2048) * (Int.tmod a0_2 2048))) + (wrap64 ((Int.tmod a0_3 2048) * (Int.tmod a0_3 2048))))))) t590 _ A38.out).mono ?_); clear A38; rintro e w45 ⟨rfl, hb⟩; have n0_ := Aside0.mk (blk_below (g := gb575) (o := .cells #[.int .i64 a0_0, .int .i64 a0_1, .int .i64 a0_2, .int .i64 a0_3] 32 (0, 0)) (by (with_reducible repeat (first | refine blk_drewN ?_ _ | refine blk_drew ?_ | refine blk_alloc ?_ _)); exact BK575.out) hb); have n1_ := Aside0.mk (blk_below (g := gb582) (o := .cells #[.int .u32 t580, .int .u32 t581] 25 (0, 0)) (by (with_reducible repeat (first | refine blk_drewN ?_ _ | refine blk_drew ?_ | refine blk_alloc ?_ _)); exact BK582.out) hb); have n2_ := Aside0.mk (blk_below (g := gb585) (o := .cells #[.int .u32 t583, .int .u32 t584] 25 (0, 0)) (by (with_reducible repeat (first | refine blk_drewN ?_ _ | refine blk_drew ?_ | refine blk_alloc ?_ _)); exact BK585.out) hb); have n3_ := Aside0.mk (below_step (by repeat (first | (with_reducible first | exact HB.out | apply below_alloc | apply pw_below_drewN | apply below_drew1 | refine below_set ?_ GE575.out | refine below_set ?_ GE582.out | refine below_set ?_ GE585.out) | exact HB.out)) hb); clear BK575; clear BK582; clear BK585; clear HB; have BK575 := n0_; have BK582 := n1_; have BK585 := n2_; have HB := n3_; clear n0_ n1_ n2_ n3_; (try clear hb); (try clear hb2); (try clear hk); (try clear hi)) | (go_at_call 27; (with_reducible refine (lathelaw04_works.calls  t591 _ A40.out).mono ?_); clear A40; rintro e w46 ⟨rfl, hb⟩; have n0_ := Aside0.mk (blk_below (g := gb575) (o := .cells #[.int .i64 a0_0, .int .i64 a0_1, .int .i64 a0_2, .int .i64 a0_3] 32 (0, 0)) (by (with_reducible repeat (first | refine blk_drewN ?_ _ | refine blk_drew ?_ | refine blk_alloc ?_ _)); exact BK575.out) hb); have n1_ := Aside0.mk (blk_below (g := gb582) (o := .cells #[.int .u32 t580, .int .u32 t581] 25 (0, 0)) (by (with_reducible repeat (first | refine blk_drewN ?_ _ | refine blk_drew ?_ | refine blk_alloc ?_ _)); exact BK582.out) hb); have n2_ := Aside0.mk (blk_below (g := gb585) (o := .cells #[.int .u32 t583, .int .u32 t584] 25 (0, 0)) (by (with_reducible repeat (first | refine blk_drewN ?_ _ | refine blk_drew ?_ | refine blk_alloc ?_ _)); exact BK585.out) hb); have n3_ := Aside0.mk (below_step (by repeat (first | (with_reducible first | exact HB.out | apply below_alloc | apply pw_below_drewN | apply below_drew1 | refine below_set ?_ GE575.out | refine below_set ?_ GE582.out | refine below_set ?_ GE585.out) | exact HB.out)) hb); clear BK575; clear BK582; clear BK585; clear HB; have BK575 := n0_; have BK582 := n1_; have BK585 := n2_; have HB := n3_; clear n0_ n1_ n2_ n3_; (try clear hb); (try clear hb2); (try clear hk); (try clear hi))))
            go_ret
            exact ⟨by first | rfl | (simp [errW_none, errW_some] <;> rfl) | (simp [*, errW_none, errW_some] <;> rfl), by repeat (first | (with_reducible first | exact HB.out | apply below_alloc | apply pw_below_drewN | apply below_drew1 | refine below_set ?_ GE575.out | refine below_set ?_ GE582.out | refine below_set ?_ GE585.out) | exact HB.out)⟩
          · rw [if_neg c39] at H
            have c39b0 : ((wrap64 (t589)) == t590) = false := beq_eq_false_iff_ne.mpr c39
            have c39b1 : ((wrap64 (t589)) != t590) = true := bne_iff_ne.mpr c39
            obtain rfl := Option.some.inj H
            have hnb47 := NB582_575.out
            have hnc47 := NB575_582.out
            have hnb48 := NB582_585.out
            have hnc48 := NB585_582.out
            have hcz49_0 : wc.cell? ⟨gb582, 0, none⟩ = some (.int .u32 t580) := (blk_cell BK582.out 0).trans rfl
            have hcz49_1 : wc.cell? ⟨gb582, 1, none⟩ = some (.int .u32 t581) := (blk_cell BK582.out 1).trans rfl
            have hfz49_0 := blk_frozen BK582.out 0
            have hfz49_1 := blk_frozen BK582.out 1
            go_wp2_with (first | (go_at_call 25; (with_reducible refine (pair_Square.calls t580 t581 t589 _ A37.out).mono ?_); clear A37; rintro e w50 ⟨rfl, hb⟩; have n0_ := Aside0.mk (blk_below (g := gb575) (o := .cells #[.int .i64 a0_0, .int .i64 a0_1, .int .i64 a0_2, .int .i64 a0_3] 32 (0, 0)) (by (with_reducible repeat (first | refine blk_drewN ?_ _ | refine blk_drew ?_ | refine blk_alloc ?_ _)); exact BK575.out) hb); have n1_ := Aside0.mk (blk_below (g := gb582) (o := .cells #[.int .u32 t580, .int .u32 t581] 25 (0, 0)) (by (with_reducible repeat (first | refine blk_drewN ?_ _ | refine blk_drew ?_ | refine blk_alloc ?_ _)); exact BK582.out) hb); have n2_ := Aside0.mk (blk_below (g := gb585) (o := .cells #[.int .u32 t583, .int .u32 t584] 25 (0, 0)) (by (with_reducible repeat (first | refine blk_drewN ?_ _ | refine blk_drew ?_ | refine blk_alloc ?_ _)); exact BK585.out) hb); have n3_ := Aside0.mk (below_step (by repeat (first | (with_reducible first | exact HB.out | apply below_alloc | apply pw_below_drewN | apply below_drew1 | refine below_set ?_ GE575.out | refine below_set ?_ GE582.out | refine below_set ?_ GE585.out) | exact HB.out)) hb); clear BK575; clear BK582; clear BK585; clear HB; have BK575 := n0_; have BK582 := n1_; have BK585 := n2_; have HB := n3_; clear n0_ n1_ n2_ n3_; (try clear hb); (try clear hb2); (try clear hk); (try clear hi)) | (go_at_call 30; (with_reducible refine (latheref02_FromInt.calls kj5 (wrap64 ((wrap64 ((wrap64 ((Int.tmod a0_0 2048) * (Int.tmod a0_0 2048))) + (wrap64 ((Int.tmod a0_1 2048) * (Int.tmod a0_1 2048))))) * (wrap64 ((wrap64 ((Int.tmod a0_2 2048) * (Int.tmod a0_2 2048))) + (wrap64 ((Int.tmod a0_3 2048) * (Int.tmod a0_3 2048))))))) t590 _ A38.out).mono ?_); clear A38; rintro e w51 ⟨rfl, hb⟩; have n0_ := Aside0.mk (blk_below (g := gb575) (o := .cells #[.int .i64 a0_0, .int .i64 a0_1, .int .i64 a0_2, .int .i64 a0_3] 32 (0, 0)) (by (with_reducible repeat (first | refine blk_drewN ?_ _ | refine blk_drew ?_ | refine blk_alloc ?_ _)); exact BK575.out) hb); have n1_ := Aside0.mk (blk_below (g := gb582) (o := .cells #[.int .u32 t580, .int .u32 t581] 25 (0, 0)) (by (with_reducible repeat (first | refine blk_drewN ?_ _ | refine blk_drew ?_ | refine blk_alloc ?_ _)); exact BK582.out) hb); have n2_ := Aside0.mk (blk_below (g := gb585) (o := .cells #[.int .u32 t583, .int .u32 t584] 25 (0, 0)) (by (with_reducible repeat (first | refine blk_drewN ?_ _ | refine blk_drew ?_ | refine blk_alloc ?_ _)); exact BK585.out) hb); have n3_ := Aside0.mk (below_step (by repeat (first | (with_reducible first | exact HB.out | apply below_alloc | apply pw_below_drewN | apply below_drew1 | refine below_set ?_ GE575.out | refine below_set ?_ GE582.out | refine below_set ?_ GE585.out) | exact HB.out)) hb); clear BK575; clear BK582; clear BK585; clear HB; have BK575 := n0_; have BK582 := n1_; have BK585 := n2_; have HB := n3_; clear n0_ n1_ n2_ n3_; (try clear hb); (try clear hb2); (try clear hk); (try clear hi)))
            repeat (go_quiet (first | (go_at_call 25; (with_reducible refine (pair_Square.calls t580 t581 t589 _ A37.out).mono ?_); clear A37; rintro e w50 ⟨rfl, hb⟩; have n0_ := Aside0.mk (blk_below (g := gb575) (o := .cells #[.int .i64 a0_0, .int .i64 a0_1, .int .i64 a0_2, .int .i64 a0_3] 32 (0, 0)) (by (with_reducible repeat (first | refine blk_drewN ?_ _ | refine blk_drew ?_ | refine blk_alloc ?_ _)); exact BK575.out) hb); have n1_ := Aside0.mk (blk_below (g := gb582) (o := .cells #[.int .u32 t580, .int .u32 t581] 25 (0, 0)) (by (with_reducible repeat (first | refine blk_drewN ?_ _ | refine blk_drew ?_ | refine blk_alloc ?_ _)); exact BK582.out) hb); have n2_ := Aside0.mk (blk_below (g := gb585) (o := .cells #[.int .u32 t583, .int .u32 t584] 25 (0, 0)) (by (with_reducible repeat (first | refine blk_drewN ?_ _ | refine blk_drew ?_ | refine blk_alloc ?_ _)); exact BK585.out) hb); have n3_ := Aside0.mk (below_step (by repeat (first | (with_reducible first | exact HB.out | apply below_alloc | apply pw_below_drewN | apply below_drew1 | refine below_set ?_ GE575.out | refine below_set ?_ GE582.out | refine below_set ?_ GE585.out) | exact HB.out)) hb); clear BK575; clear BK582; clear BK585; clear HB; have BK575 := n0_; have BK582 := n1_; have BK585 := n2_; have HB := n3_; clear n0_ n1_ n2_ n3_; (try clear hb); (try clear hb2); (try clear hk); (try clear hi)) | (go_at_call 30; (with_reducible refine (latheref02_FromInt.calls kj5 (wrap64 ((wrap64 ((wrap64 ((Int.tmod a0_0 2048) * (Int.tmod a0_0 2048))) + (wrap64 ((Int.tmod a0_1 2048) * (Int.tmod a0_1 2048))))) * (wrap64 ((wrap64 ((Int.tmod a0_2 2048) * (Int.tmod a0_2 2048))) + (wrap64 ((Int.tmod a0_3 2048) * (Int.tmod a0_3 2048))))))) t590 _ A38.out).mono ?_); clear A38; rintro e w51 ⟨rfl, hb⟩; have n0_ := Aside0.mk (blk_below (g := gb575) (o := .cells #[.int .i64 a0_0, .int .i64 a0_1, .int .i64 a0_2, .int .i64 a0_3] 32 (0, 0)) (by (with_reducible repeat (first | refine blk_drewN ?_ _ | refine blk_drew ?_ | refine blk_alloc ?_ _)); exact BK575.out) hb); have n1_ := Aside0.mk (blk_below (g := gb582) (o := .cells #[.int .u32 t580, .int .u32 t581] 25 (0, 0)) (by (with_reducible repeat (first | refine blk_drewN ?_ _ | refine blk_drew ?_ | refine blk_alloc ?_ _)); exact BK582.out) hb); have n2_ := Aside0.mk (blk_below (g := gb585) (o := .cells #[.int .u32 t583, .int .u32 t584] 25 (0, 0)) (by (with_reducible repeat (first | refine blk_drewN ?_ _ | refine blk_drew ?_ | refine blk_alloc ?_ _)); exact BK585.out) hb); have n3_ := Aside0.mk (below_step (by repeat (first | (with_reducible first | exact HB.out | apply below_alloc | apply pw_below_drewN | apply below_drew1 | refine below_set ?_ GE575.out | refine below_set ?_ GE582.out | refine below_set ?_ GE585.out) | exact HB.out)) hb); clear BK575; clear BK582; clear BK585; clear HB; have BK575 := n0_; have BK582 := n1_; have BK585 := n2_; have HB := n3_; clear n0_ n1_ n2_ n3_; (try clear hb); (try clear hb2); (try clear hk); (try clear hi))); try go_wp2_with (first | (go_at_call 25; (with_reducible refine (pair_Square.calls t580 t581 t589 _ A37.out).mono ?_); clear A37; rintro e w50 ⟨rfl, hb⟩; have n0_ := Aside0.mk (blk_below (g := gb575) (o := .cells #[.int .i64 a0_0, .int .i64 a0_1, .int .i64 a0_2, .int .i64 a0_3] 32 (0, 0)) (by (with_reducible repeat (first | refine blk_drewN ?_ _ | refine blk_drew ?_ | refine blk_alloc ?_ _)); exact BK575.out) hb); have n1_ := Aside0.mk (blk_below (g := gb582) (o := .cells #[.int .u32 t580, .int .u32 t581] 25 (0, 0)) (by (with_reducible repeat (first | refine blk_drewN ?_ _ | refine blk_drew ?_ | refine blk_alloc ?_ _)); exact BK582.out) hb); have n2_ := Aside0.mk (blk_below (g := gb585) (o := .cells #[.int .u32 t583, .int .u32 t584] 25 (0, 0)) (by (with_reducible repeat (first | refine blk_drewN ?_ _ | refine blk_drew ?_ | refine blk_alloc ?_ _)); exact BK585.out) hb); have n3_ := Aside0.mk (below_step (by repeat (first | (with_reducible first | exact HB.out | apply below_alloc | apply pw_below_drewN | apply below_drew1 | refine below_set ?_ GE575.out | refine below_set ?_ GE582.out | refine below_set ?_ GE585.out) | exact HB.out)) hb); clear BK575; clear BK582; clear BK585; clear HB; have BK575 := n0_; have BK582 := n1_; have BK585 := n2_; have HB := n3_; clear n0_ n1_ n2_ n3_; (try clear hb); (try clear hb2); (try clear hk); (try clear hi)) | (go_at_call 30; (with_reducible refine (latheref02_FromInt.calls kj5 (wrap64 ((wrap64 ((wrap64 ((Int.tmod a0_0 2048) * (Int.tmod a0_0 2048))) + (wrap64 ((Int.tmod a0_1 2048) * (Int.tmod a0_1 2048))))) * (wrap64 ((wrap64 ((Int.tmod a0_2 2048) * (Int.tmod a0_2 2048))) + (wrap64 ((Int.tmod a0_3 2048) * (Int.tmod a0_3 2048))))))) t590 _ A38.out).mono ?_); clear A38; rintro e w51 ⟨rfl, hb⟩; have n0_ := Aside0.mk (blk_below (g := gb575) (o := .cells #[.int .i64 a0_0, .int .i64 a0_1, .int .i64 a0_2, .int .i64 a0_3] 32 (0, 0)) (by (with_reducible repeat (first | refine blk_drewN ?_ _ | refine blk_drew ?_ | refine blk_alloc ?_ _)); exact BK575.out) hb); have n1_ := Aside0.mk (blk_below (g := gb582) (o := .cells #[.int .u32 t580, .int .u32 t581] 25 (0, 0)) (by (with_reducible repeat (first | refine blk_drewN ?_ _ | refine blk_drew ?_ | refine blk_alloc ?_ _)); exact BK582.out) hb); have n2_ := Aside0.mk (blk_below (g := gb585) (o := .cells #[.int .u32 t583, .int .u32 t584] 25 (0, 0)) (by (with_reducible repeat (first | refine blk_drewN ?_ _ | refine blk_drew ?_ | refine blk_alloc ?_ _)); exact BK585.out) hb); have n3_ := Aside0.mk (below_step (by repeat (first | (with_reducible first | exact HB.out | apply below_alloc | apply pw_below_drewN | apply below_drew1 | refine below_set ?_ GE575.out | refine below_set ?_ GE582.out | refine below_set ?_ GE585.out) | exact HB.out)) hb); clear BK575; clear BK582; clear BK585; clear HB; have BK575 := n0_; have BK582 := n1_; have BK585 := n2_; have HB := n3_; clear n0_ n1_ n2_ n3_; (try clear hb); (try clear hb2); (try clear hk); (try clear hi))))
            go_ret
            exact ⟨by first | rfl | (simp [errW_none, errW_some] <;> rfl) | (simp [*, errW_none, errW_some] <;> rfl), by repeat (first | (with_reducible first | exact HB.out | apply below_alloc | apply pw_below_drewN | apply below_drew1 | refine below_set ?_ GE575.out | refine below_set ?_ GE582.out | refine below_set ?_ GE585.out) | exact HB.out)⟩

/-! ### pair_Conj: function 31 (given) -/
def pair_Conj.f (a0_0 : Int) (a0_1 : Int) : Option (Int × Int) := some ((Lathe.tl a0_0.toNat : Nat), (Lathe.fneg a0_1.toNat : Nat))
theorem pair_Conj.calls (a0_0 : Int) (a0_1 : Int) (r1 : Int) (r2 : Int) (w : World) (h : pair_Conj.f a0_0 a0_1 = some (r1, r2)) :
    Calls Try.prog 31 #[.agg #[.int .u32 a0_0, .int .u32 a0_1]] w fun e w' => e = .returned (.agg #[.int .u32 r1, .int .u32 r2]) ∧ Below w.heap.size w w' := by
  have h := Option.some.inj h
  simp only [Prod.mk.injEq] at h
  obtain ⟨rfl, rfl⟩ := h
  exact Pai.Conj_any a0_0 a0_1 w


-- NOT PRINTED: function 5 (lathelaw04_PairTurns)

/-! ### latheref04_Add: function 33 -/
def latheref04_Add.f (k : Nat) (a0_0 : Int) (a0_1 : Int) (a1_0 : Int) (a1_1 : Int) : Option (Int × Int) := (latheref04_add.f k a0_0 a1_0).bind fun t620 => ((latheref04_add.f k a0_1 a1_1).bind fun t621 => (some (t620, t621)))
theorem latheref04_Add.mono : ∀ a0 a1 a2 a3 k, LeO (latheref04_Add.f k a0 a1 a2 a3) (latheref04_Add.f (k + 1) a0 a1 a2 a3) := by
  intro a0 a1 a2 a3 k
  unfold latheref04_Add.f
  repeat' first
      | (with_reducible exact latheref04_add.mono _ _ _)
      | (with_reducible exact LeO.refl _)
      | (with_reducible exact LeO.none _)
      | (with_reducible refine LeO.ite ?_ ?_)
      | (with_reducible refine LeO.bind ?_ (fun _ => ?_))
      | exact latheref04_add.mono _ _ _
      | exact LeO.none _
      | refine LeO.ite ?_ ?_
      | refine LeO.bind ?_ (fun _ => ?_)
def latheref04_Add.T1 : Bool × List (List Nat × List Nat) := (true, [([], []), ([0], [0]), ([], []), ([2], [2]), ([1, 3], [1, 3]), ([], []), ([5], [5]), ([], []), ([7], [7]), ([6, 8, 4], [6, 8]), ([4, 9], [4, 9]), ([10, 9, 0, 1, 2, 3, 4, 5, 6, 7, 8, 9, 10], [10])])
def latheref04_Add.B1 : List Nat := [0, 1, 0, 4, 15, 0, 32, 0, 128, 511, 1023, 2047]
theorem latheref04_Add.tab1 : rtab .any (opsOf Try.f33 1) = latheref04_Add.T1 := by kernel_rfl
theorem latheref04_Add.bits1 : waitsOk latheref04_Add.T1.2 latheref04_Add.B1 = true := by kernel_rfl
set_option maxHeartbeats 8000000 in
set_option maxRecDepth 100000 in
theorem latheref04_Add.calls (k : Nat) (a0_0 : Int) (a0_1 : Int) (a1_0 : Int) (a1_1 : Int) (r1 : Int) (r2 : Int) (w : World) (h : latheref04_Add.f k a0_0 a0_1 a1_0 a1_1 = some (r1, r2)) :
    Calls Try.prog 33 #[.agg #[.int .u32 a0_0, .int .u32 a0_1], .agg #[.int .u32 a1_0, .int .u32 a1_1]] w fun e w' => e = .returned (.agg #[.int .u32 r1, .int .u32 r2]) ∧ Below w.heap.size w w' := by
  have hu25 := Try.underlying25
  have HB := Aside0.mk (Below.refl w.heap.size w)
  have H : ((latheref04_add.f k a0_0 a1_0).bind fun t620 => ((latheref04_add.f k a0_1 a1_1).bind fun t621 => (some (t620, t621)))) = some (r1, r2) := h
  clear h
  replace H := Option.bind_eq_some_iff.mp H
  obtain ⟨t620, A30, H⟩ := H
  replace H : ((latheref04_add.f k a0_1 a1_1).bind fun t621 => (some (t620, t621))) = some (r1, r2) := H
  have A3 := Aside0.mk A30
  clear A30
  replace H := Option.bind_eq_some_iff.mp H
  obtain ⟨t621, A40, H⟩ := H
  replace H : (some (t620, t621)) = some (r1, r2) := H
  have A4 := Aside0.mk A40
  clear A40
  simp only [Option.some.injEq, Prod.mk.injEq] at H
  obtain ⟨rfl, rfl⟩ := H
  go_enter Try.func33, Try.ntmps33
  try go_wp2_with (first | ((with_reducible refine gate_dst (N := 2) rfl ?_); refine box_event ?hg (N := 2) ?hd (cs := #[.int .u32 a0_0, .int .u32 a0_1]) (t := 25) ?hr ?_; (case hd => rfl); (case hg => rfl); (case hr => first | (go_simp; done) | (go_simp; rfl)); intro gb617 hg w5 hbox hb; have n0_ := Aside0.mk (below_step (by repeat (first | (with_reducible first | exact HB.out | apply below_alloc | apply pw_below_drewN | apply below_drew1) | exact HB.out)) hb); have n1_ := Aside0.mk (hbox); have n2_ := Aside0.mk ((by rw [hg]; exact (below_size (by repeat (first | (with_reducible first | exact HB.out | apply below_alloc | apply pw_below_drewN | apply below_drew1) | exact HB.out))) : w.heap.size ≤ gb617)); have n3_ := Aside0.mk ((by rw [hg]; exact (below_size (by repeat (first | (with_reducible first | exact HB.out | apply below_alloc | apply pw_below_drewN | apply below_drew1) | exact HB.out))) : w.heap.size ≤ gb617)); clear HB; have HB := n0_; have BK617 := n1_; have GW617 := n2_; have GE617 := n3_; clear n0_ n1_ n2_ n3_; clear hb hbox hg) | ((with_reducible refine gate_dst (N := 3) rfl ?_); refine box_event ?hg (N := 3) ?hd (cs := #[.int .u32 a1_0, .int .u32 a1_1]) (t := 25) ?hr ?_; (case hd => rfl); (case hg => rfl); (case hr => first | (go_simp; done) | (go_simp; rfl)); intro gb618 hg w6 hbox hb; have n0_ := Aside0.mk (blk_below (g := gb617) (o := .cells #[.int .u32 a0_0, .int .u32 a0_1] 25 (0, 0)) (by (with_reducible repeat (first | refine blk_drewN ?_ _ | refine blk_drew ?_ | refine blk_alloc ?_ _)); exact BK617.out) hb); have n1_ := Aside0.mk (below_step (by repeat (first | (with_reducible first | exact HB.out | apply below_alloc | apply pw_below_drewN | apply below_drew1 | refine below_set ?_ GE617.out) | exact HB.out)) hb); have n2_ := Aside0.mk (hbox); have n3_ := Aside0.mk ((by rw [hg]; exact (below_size (by repeat (first | (with_reducible first | exact HB.out | apply below_alloc | apply pw_below_drewN | apply below_drew1 | refine below_set ?_ GE617.out) | exact HB.out))) : w.heap.size ≤ gb618)); have n4_ := Aside0.mk ((by rw [hg]; exact (below_size (by repeat (first | (with_reducible first | exact HB.out | apply below_alloc | apply pw_below_drewN | apply below_drew1 | refine below_set ?_ GE617.out) | exact HB.out))) : w.heap.size ≤ gb618)); have n5_ := Aside0.mk ((by rw [hg]; exact Nat.ne_of_lt (blk_lt (g := gb617) (o := .cells #[.int .u32 a0_0, .int .u32 a0_1] 25 (0, 0)) (by (with_reducible repeat (first | refine blk_drewN ?_ _ | refine blk_drew ?_ | refine blk_alloc ?_ _)); exact BK617.out)) : gb617 ≠ gb618)); have n6_ := Aside0.mk ((by rw [hg]; exact Nat.ne_of_gt (blk_lt (g := gb617) (o := .cells #[.int .u32 a0_0, .int .u32 a0_1] 25 (0, 0)) (by (with_reducible repeat (first | refine blk_drewN ?_ _ | refine blk_drew ?_ | refine blk_alloc ?_ _)); exact BK617.out)) : gb618 ≠ gb617)); clear BK617; clear HB; have BK617 := n0_; have HB := n1_; have BK618 := n2_; have GW618 := n3_; have GE618 := n4_; have NB617_618 := n5_; have NB618_617 := n6_; clear n0_ n1_ n2_ n3_ n4_ n5_ n6_; clear hb hbox hg) | ((with_reducible refine gate_dst (N := 4) rfl ?_); refine box_event ?hg (N := 4) ?hd (cs := #[.int .u32 0, .int .u32 0]) (t := 25) ?hr ?_; (case hd => rfl); (case hg => rfl); (case hr => first | (go_simp; done) | (go_simp; rfl)); intro gb619 hg w7 hbox hb; have n0_ := Aside0.mk (blk_below (g := gb617) (o := .cells #[.int .u32 a0_0, .int .u32 a0_1] 25 (0, 0)) (by (with_reducible repeat (first | refine blk_drewN ?_ _ | refine blk_drew ?_ | refine blk_alloc ?_ _)); exact BK617.out) hb); have n1_ := Aside0.mk (blk_below (g := gb618) (o := .cells #[.int .u32 a1_0, .int .u32 a1_1] 25 (0, 0)) (by (with_reducible repeat (first | refine blk_drewN ?_ _ | refine blk_drew ?_ | refine blk_alloc ?_ _)); exact BK618.out) hb); have n2_ := Aside0.mk (below_step (by repeat (first | (with_reducible first | exact HB.out | apply below_alloc | apply pw_below_drewN | apply below_drew1 | refine below_set ?_ GE617.out | refine below_set ?_ GE618.out) | exact HB.out)) hb); have n3_ := Aside0.mk (hbox); have n4_ := Aside0.mk ((by rw [hg]; exact (below_size (by repeat (first | (with_reducible first | exact HB.out | apply below_alloc | apply pw_below_drewN | apply below_drew1 | refine below_set ?_ GE617.out | refine below_set ?_ GE618.out) | exact HB.out))) : w.heap.size ≤ gb619)); have n5_ := Aside0.mk ((by rw [hg]; exact (below_size (by repeat (first | (with_reducible first | exact HB.out | apply below_alloc | apply pw_below_drewN | apply below_drew1 | refine below_set ?_ GE617.out | refine below_set ?_ GE618.out) | exact HB.out))) : w.heap.size ≤ gb619)); have n6_ := Aside0.mk ((by rw [hg]; exact Nat.ne_of_lt (blk_lt (g := gb617) (o := .cells #[.int .u32 a0_0, .int .u32 a0_1] 25 (0, 0)) (by (with_reducible repeat (first | refine blk_drewN ?_ _ | refine blk_drew ?_ | refine blk_alloc ?_ _)); exact BK617.out)) : gb617 ≠ gb619)); have n7_ := Aside0.mk ((by rw [hg]; exact Nat.ne_of_gt (blk_lt (g := gb617) (o := .cells #[.int .u32 a0_0, .int .u32 a0_1] 25 (0, 0)) (by (with_reducible repeat (first | refine blk_drewN ?_ _ | refine blk_drew ?_ | refine blk_alloc ?_ _)); exact BK617.out)) : gb619 ≠ gb617)); have n8_ := Aside0.mk ((by rw [hg]; exact Nat.ne_of_lt (blk_lt (g := gb618) (o := .cells #[.int .u32 a1_0, .int .u32 a1_1] 25 (0, 0)) (by (with_reducible repeat (first | refine blk_drewN ?_ _ | refine blk_drew ?_ | refine blk_alloc ?_ _)); exact BK618.out)) : gb618 ≠ gb619)); have n9_ := Aside0.mk ((by rw [hg]; exact Nat.ne_of_gt (blk_lt (g := gb618) (o := .cells #[.int .u32 a1_0, .int .u32 a1_1] 25 (0, 0)) (by (with_reducible repeat (first | refine blk_drewN ?_ _ | refine blk_drew ?_ | refine blk_alloc ?_ _)); exact BK618.out)) : gb619 ≠ gb618)); clear BK617; clear BK618; clear HB; have BK617 := n0_; have BK618 := n1_; have HB := n2_; have BK619 := n3_; have GW619 := n4_; have GE619 := n5_; have NB617_619 := n6_; have NB619_617 := n7_; have NB618_619 := n8_; have NB619_618 := n9_; clear n0_ n1_ n2_ n3_ n4_ n5_ n6_ n7_ n8_ n9_; clear hb hbox hg))
  have n0_ := Aside0.mk (blk_drew BK617.out)
  have n1_ := Aside0.mk (blk_drew BK618.out)
  have n2_ := Aside0.mk (blk_drew BK619.out)
  have n3_ := Aside0.mk (below_drew1 HB.out)
  clear BK617
  clear BK618
  clear BK619
  clear HB
  have BK617 := n0_
  have BK618 := n1_
  have BK619 := n2_
  have HB := n3_
  clear n0_ n1_ n2_ n3_
  refine start_ (n := 12) (S := fun w' => w'.cell? ⟨gb617, 0, none⟩ = some (.int .u32 a0_0) ∧ w'.cell? ⟨gb617, 1, none⟩ = some (.int .u32 a0_1) ∧ w'.cell? ⟨gb618, 0, none⟩ = some (.int .u32 a1_0) ∧ w'.cell? ⟨gb618, 1, none⟩ = some (.int .u32 a1_1)) (ds := []) #[false, false, false, false, false, false, false, false, false, false, false, false] (by kernel_rfl) rfl rfl ⟨(blk_cell BK617.out 0).trans rfl, (blk_cell BK617.out 1).trans rfl, (blk_cell BK618.out 0).trans rfl, (blk_cell BK618.out 1).trans rfl⟩ (fun hHeld => ?_); refine with_tabW latheref04_Add.tab1 latheref04_Add.bits1 (fun HT_ HW_ => ?_)
  generalize w7.drew = w8 at BK617 BK618 BK619 HB hHeld ⊢
  refine pure_ (i := 0) (N := some 5) (v := ?_) (a' := ?_) #[true, false, false, false, false, false, false, false, false, false, false, false] rfl rfl (any_of HT_.out (by kernel_rfl)) (fun _ _ _ h => h) (Or.inl ⟨by rfl, ?_⟩) ?_ ?_
  rotate_left
  · intro w'
    go_simp
    with_reducible rfl
  rotate_left
  · simp only [Act.put, List.setIfInBounds_toArray, List.set_cons_zero, List.set_cons_succ, i64_w, i32_w]
    rfl
  refine pure_ (i := 2) (N := some 7) (v := ?_) (a' := ?_) #[true, false, true, false, false, false, false, false, false, false, false, false] rfl rfl (any_of HT_.out (by kernel_rfl)) (fun _ _ _ h => h) (Or.inl ⟨by rfl, ?_⟩) ?_ ?_
  rotate_left
  · intro w'
    go_simp
    with_reducible rfl
  rotate_left
  · simp only [Act.put, List.setIfInBounds_toArray, List.set_cons_zero, List.set_cons_succ, i64_w, i32_w]
    rfl
  refine pure_ (i := 5) (N := some 10) (v := ?_) (a' := ?_) #[true, false, true, false, false, true, false, false, false, false, false, false] rfl rfl (any_of HT_.out (by kernel_rfl)) (fun _ _ _ h => h) (Or.inl ⟨by rfl, ?_⟩) ?_ ?_
  rotate_left
  · intro w'
    go_simp
    with_reducible rfl
  rotate_left
  · simp only [Act.put, List.setIfInBounds_toArray, List.set_cons_zero, List.set_cons_succ, i64_w, i32_w]
    rfl
  refine pure_ (i := 7) (N := some 12) (v := ?_) (a' := ?_) #[true, false, true, false, false, true, false, true, false, false, false, false] rfl rfl (any_of HT_.out (by kernel_rfl)) (fun _ _ _ h => h) (Or.inl ⟨by rfl, ?_⟩) ?_ ?_
  rotate_left
  · intro w'
    go_simp
    with_reducible rfl
  rotate_left
  · simp only [Act.put, List.setIfInBounds_toArray, List.set_cons_zero, List.set_cons_succ, i64_w, i32_w]
    rfl
  refine take_ (i := 1) (N := some 6) (v := ?_) (a' := ?_) #[true, true, true, false, false, true, false, true, false, false, false, false] rfl rfl (take_ofW HT_.out HW_.out (by kernel_rfl)) (fun _ _ _ h => h) (Or.inl ⟨by rfl, ?_⟩) hHeld ?_ ?_
  rotate_left
  · rintro w' ⟨s0, s1, s2, s3⟩
    go_simp
    with_reducible rfl
  rotate_left
  · simp only [Act.put, List.setIfInBounds_toArray, List.set_cons_zero, List.set_cons_succ, i64_w, i32_w]
    rfl
  refine take_ (i := 3) (N := some 8) (v := ?_) (a' := ?_) #[true, true, true, true, false, true, false, true, false, false, false, false] rfl rfl (take_ofW HT_.out HW_.out (by kernel_rfl)) (fun _ _ _ h => h) (Or.inl ⟨by rfl, ?_⟩) hHeld ?_ ?_
  rotate_left
  · rintro w' ⟨s0, s1, s2, s3⟩
    go_simp
    with_reducible rfl
  rotate_left
  · simp only [Act.put, List.setIfInBounds_toArray, List.set_cons_zero, List.set_cons_succ, i64_w, i32_w]
    rfl
  refine take_ (i := 6) (N := some 11) (v := ?_) (a' := ?_) #[true, true, true, true, false, true, true, true, false, false, false, false] rfl rfl (take_ofW HT_.out HW_.out (by kernel_rfl)) (fun _ _ _ h => h) (Or.inl ⟨by rfl, ?_⟩) hHeld ?_ ?_
  rotate_left
  · rintro w' ⟨s0, s1, s2, s3⟩
    go_simp
    with_reducible rfl
  rotate_left
  · simp only [Act.put, List.setIfInBounds_toArray, List.set_cons_zero, List.set_cons_succ, i64_w, i32_w]
    rfl
  refine take_ (i := 8) (N := some 13) (v := ?_) (a' := ?_) #[true, true, true, true, false, true, true, true, true, false, false, false] rfl rfl (take_ofW HT_.out HW_.out (by kernel_rfl)) (fun _ _ _ h => h) (Or.inl ⟨by rfl, ?_⟩) hHeld ?_ ?_
  rotate_left
  · rintro w' ⟨s0, s1, s2, s3⟩
    go_simp
    with_reducible rfl
  rotate_left
  · simp only [Act.put, List.setIfInBounds_toArray, List.set_cons_zero, List.set_cons_succ, i64_w, i32_w]
    rfl
  refine one_ (i := 4) (N := some 9) #[true, true, true, true, true, true, true, true, true, false, false, false] rfl rfl (one_of HT_.out (by kernel_rfl)) (by decide) (fun K hK => ?_)
  refine goes_ Try.func89 (by kernel_rfl) rfl #[.int .u32 a0_0, .int .u32 a1_0] (by rfl) rfl rfl (by (try simp only [List.map_toArray, List.map_cons, List.map_nil]); first | done | rfl | (simp only [List.length_drop, List.length_take]; rfl)) ?_
  with_reducible refine (latheref04_add.calls k a0_0 a1_0 t620 _ A3.out).mono ?_
  rintro e w9 ⟨rfl, hb⟩
  refine ⟨_, rfl, ?_⟩
  have n0_ := Aside0.mk (blk_below (g := gb617) (o := .cells #[.int .u32 a0_0, .int .u32 a0_1] 25 (0, 0)) (by (with_reducible repeat (first | refine blk_drewN ?_ _ | refine blk_drew ?_ | refine blk_alloc ?_ _)); exact BK617.out) hb)
  have n1_ := Aside0.mk (blk_below (g := gb618) (o := .cells #[.int .u32 a1_0, .int .u32 a1_1] 25 (0, 0)) (by (with_reducible repeat (first | refine blk_drewN ?_ _ | refine blk_drew ?_ | refine blk_alloc ?_ _)); exact BK618.out) hb)
  have n2_ := Aside0.mk (blk_below (g := gb619) (o := .cells #[.int .u32 0, .int .u32 0] 25 (0, 0)) (by (with_reducible repeat (first | refine blk_drewN ?_ _ | refine blk_drew ?_ | refine blk_alloc ?_ _)); exact BK619.out) hb)
  have n3_ := Aside0.mk (below_step (by repeat (first | (with_reducible first | exact HB.out | apply below_alloc | apply pw_below_drewN | apply below_drew1 | refine below_set ?_ GE617.out | refine below_set ?_ GE618.out | refine below_set ?_ GE619.out) | exact HB.out)) hb)
  clear BK617
  clear BK618
  clear BK619
  clear HB
  have BK617 := n0_
  have BK618 := n1_
  have BK619 := n2_
  have HB := n3_
  clear n0_ n1_ n2_ n3_
  (try clear hb)
  (try clear hb2)
  (try clear hk)
  (try clear hi)
  refine hK.out _ _ ⟨(blk_cell BK617.out 0).trans rfl, (blk_cell BK617.out 1).trans rfl, (blk_cell BK618.out 0).trans rfl, (blk_cell BK618.out 1).trans rfl⟩ (fun hHeld => ?_)
  clear hK K
  refine norm_ (a' := ?_) ?_ ?_
  rotate_left
  · show Act.put _ (some 9) _ = _
    simp only [Act.put, List.setIfInBounds_toArray, List.set_cons_zero, List.set_cons_succ, i64_w, i32_w]
    rfl
  refine one_ (i := 9) (N := some 14) #[true, true, true, true, true, true, true, true, true, true, false, false] rfl rfl (one_of HT_.out (by kernel_rfl)) (by decide) (fun K hK => ?_)
  refine goes_ Try.func89 (by kernel_rfl) rfl #[.int .u32 a0_1, .int .u32 a1_1] (by rfl) rfl rfl (by (try simp only [List.map_toArray, List.map_cons, List.map_nil]); first | done | rfl | (simp only [List.length_drop, List.length_take]; rfl)) ?_
  with_reducible refine (latheref04_add.calls k a0_1 a1_1 t621 _ A4.out).mono ?_
  rintro e w10 ⟨rfl, hb⟩
  refine ⟨_, rfl, ?_⟩
  have n0_ := Aside0.mk (blk_below (g := gb617) (o := .cells #[.int .u32 a0_0, .int .u32 a0_1] 25 (0, 0)) (by (with_reducible repeat (first | refine blk_drewN ?_ _ | refine blk_drew ?_ | refine blk_alloc ?_ _)); exact BK617.out) hb)
  have n1_ := Aside0.mk (blk_below (g := gb618) (o := .cells #[.int .u32 a1_0, .int .u32 a1_1] 25 (0, 0)) (by (with_reducible repeat (first | refine blk_drewN ?_ _ | refine blk_drew ?_ | refine blk_alloc ?_ _)); exact BK618.out) hb)
  have n2_ := Aside0.mk (blk_below (g := gb619) (o := .cells #[.int .u32 0, .int .u32 0] 25 (0, 0)) (by (with_reducible repeat (first | refine blk_drewN ?_ _ | refine blk_drew ?_ | refine blk_alloc ?_ _)); exact BK619.out) hb)
  have n3_ := Aside0.mk (below_step (by repeat (first | (with_reducible first | exact HB.out | apply below_alloc | apply pw_below_drewN | apply below_drew1 | refine below_set ?_ GE617.out | refine below_set ?_ GE618.out | refine below_set ?_ GE619.out) | exact HB.out)) hb)
  clear BK617
  clear BK618
  clear BK619
  clear HB
  have BK617 := n0_
  have BK618 := n1_
  have BK619 := n2_
  have HB := n3_
  clear n0_ n1_ n2_ n3_
  (try clear hb)
  (try clear hb2)
  (try clear hk)
  (try clear hi)
  refine hK.out _ _ ⟨(blk_cell BK617.out 0).trans rfl, (blk_cell BK617.out 1).trans rfl, (blk_cell BK618.out 0).trans rfl, (blk_cell BK618.out 1).trans rfl⟩ (fun hHeld => ?_)
  clear hK K
  refine norm_ (a' := ?_) ?_ ?_
  rotate_left
  · show Act.put _ (some 14) _ = _
    simp only [Act.put, List.setIfInBounds_toArray, List.set_cons_zero, List.set_cons_succ, i64_w, i32_w]
    rfl
  refine pure_ (i := 10) (N := some 15) (v := ?_) (a' := ?_) #[true, true, true, true, true, true, true, true, true, true, true, false] rfl rfl (any_of HT_.out (by kernel_rfl)) (fun _ _ _ h => h) (Or.inl ⟨by rfl, ?_⟩) ?_ ?_
  rotate_left
  · intro w'
    go_simp
    with_reducible rfl
  rotate_left
  · simp only [Act.put, List.setIfInBounds_toArray, List.set_cons_zero, List.set_cons_succ, i64_w, i32_w]
    rfl
  refine one_ (i := 11) (N := none) #[true, true, true, true, true, true, true, true, true, true, true, true] rfl rfl (one_of HT_.out (by kernel_rfl)) (by decide) (fun K hK => ?_)
  have hs11 : w10.cell? ⟨gb619, 0, none⟩ = some (.int .u32 0) := (blk_cell BK619.out 0).trans rfl
  have hfs11 := blk_frozen BK619.out 0
  have hns11_0 := NB617_619.out
  have hns11_1 := NB618_619.out
  have hms11_0 := NB619_617.out
  have hms11_1 := NB619_618.out
  have hs12 : w10.cell? ⟨gb619, 1, none⟩ = some (.int .u32 0) := (blk_cell BK619.out 1).trans rfl
  have hfs12 := blk_frozen BK619.out 1
  have hns12_0 := NB617_619.out
  have hns12_1 := NB618_619.out
  have hms12_0 := NB619_617.out
  have hms12_1 := NB619_618.out
  refine skip_ (w1 := ?_) (by rfl) rfl ?_ ?_
  rotate_left
  · go_simp
    rfl
  refine hK.out _ _ ⟨((cell_far (p := ⟨gb619, _, none⟩) NB617_619.out _).trans (((cell_far (p := ⟨gb619, _, none⟩) NB617_619.out _).trans (hHeld.1)))), ((cell_far (p := ⟨gb619, _, none⟩) NB617_619.out _).trans (((cell_far (p := ⟨gb619, _, none⟩) NB617_619.out _).trans (hHeld.2.1)))), ((cell_far (p := ⟨gb619, _, none⟩) NB618_619.out _).trans (((cell_far (p := ⟨gb619, _, none⟩) NB618_619.out _).trans (hHeld.2.2.1)))), ((cell_far (p := ⟨gb619, _, none⟩) NB618_619.out _).trans (((cell_far (p := ⟨gb619, _, none⟩) NB618_619.out _).trans (hHeld.2.2.2))))⟩ (fun hHeld => ?_)
  clear hK K
  refine done_ (done_of HT_.out (by kernel_rfl)) ?_
  try go_wp2
  refine bodyPost_ret (results_cell_row rfl _ _ gb619 25 #[.int .u32 t620, .int .u32 t621] (0, 0) _ rfl (by (with_reducible repeat (first | refine blk_drewN ?_ _ | refine blk_drew ?_ | refine blk_alloc ?_ _)); refine blk_put (cs := #[.int .u32 t620, .int .u32 0]) ?_ 1 _ rfl; (with_reducible repeat (first | refine blk_drewN ?_ _ | refine blk_drew ?_ | refine blk_alloc ?_ _)); refine blk_put (cs := #[.int .u32 0, .int .u32 0]) ?_ 0 _ rfl; (with_reducible repeat (first | refine blk_drewN ?_ _ | refine blk_drew ?_ | refine blk_alloc ?_ _)); exact BK619.out) Try.underlying25 rfl (by kernel_rfl)) rfl ?_
  exact ⟨by first | rfl | (simp [errW_none, errW_some] <;> rfl) | (simp [*, errW_none, errW_some] <;> rfl), by repeat (first | (with_reducible first | exact HB.out | apply below_alloc | apply pw_below_drewN | apply below_drew1 | refine below_set ?_ GE617.out | refine below_set ?_ GE618.out | refine below_set ?_ GE619.out) | exact HB.out)⟩

/-! ### pair_Sub: function 34 (given) -/
def pair_Sub.f (a0_0 : Int) (a0_1 : Int) (a1_0 : Int) (a1_1 : Int) : Option (Int × Int) := some ((Lathe.fsub a0_0.toNat a1_0.toNat : Nat), (Lathe.fsub a0_1.toNat a1_1.toNat : Nat))
theorem pair_Sub.calls (a0_0 : Int) (a0_1 : Int) (a1_0 : Int) (a1_1 : Int) (r1 : Int) (r2 : Int) (w : World) (h : pair_Sub.f a0_0 a0_1 a1_0 a1_1 = some (r1, r2)) :
    Calls Try.prog 34 #[.agg #[.int .u32 a0_0, .int .u32 a0_1], .agg #[.int .u32 a1_0, .int .u32 a1_1]] w fun e w' => e = .returned (.agg #[.int .u32 r1, .int .u32 r2]) ∧ Below w.heap.size w w' := by
  have h := Option.some.inj h
  simp only [Prod.mk.injEq] at h
  obtain ⟨rfl, rfl⟩ := h
  exact Pai.Sub_any a0_0 a0_1 a1_0 a1_1 w


end Go.Proofs.Ytcegmbplgghjnaa.PF
