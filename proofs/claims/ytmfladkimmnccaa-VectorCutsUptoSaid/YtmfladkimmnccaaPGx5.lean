/- The functions of the program that a statement reaches, as plain functions, and that the machine's calls do what these say. No condition. (Printed by a program.) -/
import Derived.Test.YtmfladkimmnccaaPGx0
import Derived.Test.YtmfladkimmnccaaPGx2
import Derived.Test.YtmfladkimmnccaaPGx3
import Derived.Test.YtmfladkimmnccaaPGx4
namespace Go.Proofs.Ytmfladkimmnccaa.PG
open Go.RowKit Go.Proofs.YtmfladkimmnccaaW.PrintWords Go.Proofs.YtmfladkimmnccaaW.PrintLast Go.Proofs.YtmfladkimmnccaaW.PrintMore
attribute [local go_sem] max2_int min2_int max_two min_two max_three min_three max_four min_four   -- for this text's walks alone
set_option linter.unusedVariables false
set_option linter.unusedSimpArgs false

/-! ### latheref02_Add: function 72 -/
mutual
def latheref02_Add.j0 : Nat → Bool → Bool → Int → Int → Bool → Bool → Bool → Int → Int → Bool → Bool → Option (Int)
  | 0, _, _, _, _, _, _, _, _, _, _, _ => none
  | k + 1, x11, x138000, x138001, x138002, x138003, x138004, x144000, x144001, x144002, x144003, x144004 => if x11 = true then (some 2143289344) else (if x138003 = true then ((latheref02_infinite.f x138000).bind fun t145 => (some t145)) else (if x144003 = true then ((latheref02_infinite.f x144000).bind fun t146 => (some t146)) else (if x138001 = 0 then (latheref02_Add.j1 k (x144001 == 0) x138000 x138001 x138002 x138003 x138004 x144000 x144001 x144002 x144003 x144004) else (latheref02_Add.j1 k false x138000 x138001 x138002 x138003 x138004 x144000 x144001 x144002 x144003 x144004))))
def latheref02_Add.j1 : Nat → Bool → Bool → Int → Int → Bool → Bool → Bool → Int → Int → Bool → Bool → Option (Int)
  | 0, _, _, _, _, _, _, _, _, _, _, _ => none
  | k + 1, x42, x138000, x138001, x138002, x138003, x138004, x144000, x144001, x144002, x144003, x144004 => if x42 = true then (if x138000 = true then ((latheref02_zero.f x144000).bind fun t147 => (some t147)) else ((latheref02_zero.f false).bind fun t148 => (some t148))) else (if x138001 = 0 then ((latheref02_Round.f k x144000 x144001 x144002).bind fun t149 => (some t149)) else (if x144001 = 0 then ((latheref02_Round.f k x138000 x138001 x138002).bind fun t150 => (some t150)) else (if x138002 < x144002 then ((latheref02_sum.f k x144000 x144001 x144002 x144003 x144004 x138000 x138001 x138002 x138003 x138004).bind fun t151 => (some t151)) else ((latheref02_sum.f k x138000 x138001 x138002 x138003 x138004 x144000 x144001 x144002 x144003 x144004).bind fun t152 => (some t152)))))
end
def latheref02_Add.f (k : Nat) (a0 : Int) (a1 : Int) : Option (Int) := (latheref02_Of.f a0).bind fun bt132 => ((latheref02_Of.f a1).bind fun bt138 => ((latheref02_nan.f bt132.1 bt132.2.1 bt132.2.2.1 bt132.2.2.2.1 bt132.2.2.2.2 bt138.1 bt138.2.1 bt138.2.2.1 bt138.2.2.2.1 bt138.2.2.2.2).bind fun t144 => (if t144 = true then (latheref02_Add.j0 k true bt132.1 bt132.2.1 bt132.2.2.1 bt132.2.2.2.1 bt132.2.2.2.2 bt138.1 bt138.2.1 bt138.2.2.1 bt138.2.2.2.1 bt138.2.2.2.2) else (if bt132.2.2.2.1 = true then (if bt138.2.2.2.1 = true then (latheref02_Add.j0 k (bt132.1 != bt138.1) bt132.1 bt132.2.1 bt132.2.2.1 bt132.2.2.2.1 bt132.2.2.2.2 bt138.1 bt138.2.1 bt138.2.2.1 bt138.2.2.2.1 bt138.2.2.2.2) else (latheref02_Add.j0 k false bt132.1 bt132.2.1 bt132.2.2.1 bt132.2.2.2.1 bt132.2.2.2.2 bt138.1 bt138.2.1 bt138.2.2.1 bt138.2.2.2.1 bt138.2.2.2.2)) else (latheref02_Add.j0 k false bt132.1 bt132.2.1 bt132.2.2.1 bt132.2.2.2.1 bt132.2.2.2.2 bt138.1 bt138.2.1 bt138.2.2.1 bt138.2.2.2.1 bt138.2.2.2.2)))))
theorem latheref02_Add.mono_l : ∀ k, (∀ y0 y1 y2 y3 y4 y5 y6 y7 y8 y9 y10, LeO (latheref02_Add.j0 k y0 y1 y2 y3 y4 y5 y6 y7 y8 y9 y10) (latheref02_Add.j0 (k + 1) y0 y1 y2 y3 y4 y5 y6 y7 y8 y9 y10)) ∧ (∀ y0 y1 y2 y3 y4 y5 y6 y7 y8 y9 y10, LeO (latheref02_Add.j1 k y0 y1 y2 y3 y4 y5 y6 y7 y8 y9 y10) (latheref02_Add.j1 (k + 1) y0 y1 y2 y3 y4 y5 y6 y7 y8 y9 y10))
  | 0 => ⟨fun _ _ _ _ _ _ _ _ _ _ _ r h => by simp [latheref02_Add.j0] at h, fun _ _ _ _ _ _ _ _ _ _ _ r h => by simp [latheref02_Add.j1] at h⟩
  | k + 1 => by
    obtain ⟨ih0, ih1⟩ := latheref02_Add.mono_l k
    refine ⟨?_, ?_⟩
    · intro y0 y1 y2 y3 y4 y5 y6 y7 y8 y9 y10
      unfold latheref02_Add.j0
      repeat' first
      | (with_reducible exact ih0 _ _ _ _ _ _ _ _ _ _ _)
      | (with_reducible exact ih1 _ _ _ _ _ _ _ _ _ _ _)
      | (with_reducible exact latheref02_Round.mono _ _ _ _)
      | (with_reducible exact latheref02_sum.mono _ _ _ _ _ _ _ _ _ _ _)
      | (with_reducible exact LeO.refl _)
      | (with_reducible exact LeO.none _)
      | (with_reducible refine LeO.ite ?_ ?_)
      | (with_reducible refine LeO.bind ?_ (fun _ => ?_))
      | exact ih0 _ _ _ _ _ _ _ _ _ _ _
      | exact ih1 _ _ _ _ _ _ _ _ _ _ _
      | exact latheref02_Round.mono _ _ _ _
      | exact latheref02_sum.mono _ _ _ _ _ _ _ _ _ _ _
      | exact LeO.none _
      | refine LeO.ite ?_ ?_
      | refine LeO.bind ?_ (fun _ => ?_)
    · intro y0 y1 y2 y3 y4 y5 y6 y7 y8 y9 y10
      unfold latheref02_Add.j1
      repeat' first
      | (with_reducible exact ih0 _ _ _ _ _ _ _ _ _ _ _)
      | (with_reducible exact ih1 _ _ _ _ _ _ _ _ _ _ _)
      | (with_reducible exact latheref02_Round.mono _ _ _ _)
      | (with_reducible exact latheref02_sum.mono _ _ _ _ _ _ _ _ _ _ _)
      | (with_reducible exact LeO.refl _)
      | (with_reducible exact LeO.none _)
      | (with_reducible refine LeO.ite ?_ ?_)
      | (with_reducible refine LeO.bind ?_ (fun _ => ?_))
      | exact ih0 _ _ _ _ _ _ _ _ _ _ _
      | exact ih1 _ _ _ _ _ _ _ _ _ _ _
      | exact latheref02_Round.mono _ _ _ _
      | exact latheref02_sum.mono _ _ _ _ _ _ _ _ _ _ _
      | exact LeO.none _
      | refine LeO.ite ?_ ?_
      | refine LeO.bind ?_ (fun _ => ?_)
theorem latheref02_Add.mono : ∀ a0 a1 k, LeO (latheref02_Add.f k a0 a1) (latheref02_Add.f (k + 1) a0 a1) := by
  intro a0 a1 k
  obtain ⟨ih0, ih1⟩ := latheref02_Add.mono_l k
  unfold latheref02_Add.f
  repeat' first
      | (with_reducible exact ih0 _ _ _ _ _ _ _ _ _ _ _)
      | (with_reducible exact ih1 _ _ _ _ _ _ _ _ _ _ _)
      | (with_reducible exact latheref02_Round.mono _ _ _ _)
      | (with_reducible exact latheref02_sum.mono _ _ _ _ _ _ _ _ _ _ _)
      | (with_reducible exact LeO.refl _)
      | (with_reducible exact LeO.none _)
      | (with_reducible refine LeO.ite ?_ ?_)
      | (with_reducible refine LeO.bind ?_ (fun _ => ?_))
      | exact ih0 _ _ _ _ _ _ _ _ _ _ _
      | exact ih1 _ _ _ _ _ _ _ _ _ _ _
      | exact latheref02_Round.mono _ _ _ _
      | exact latheref02_sum.mono _ _ _ _ _ _ _ _ _ _ _
      | exact LeO.none _
      | refine LeO.ite ?_ ?_
      | refine LeO.bind ?_ (fun _ => ?_)
set_option maxHeartbeats 8000000 in
set_option maxRecDepth 100000 in
theorem latheref02_Add.calls (k : Nat) (a0 : Int) (a1 : Int) (r : Int) (w : World) (h : latheref02_Add.f k a0 a1 = some r) :
    Calls Try.prog 72 #[.int .i64 a0, .int .i64 a1] w fun e w' => e = .returned (.int .i64 r) ∧ Below w.heap.size w w' := by
  have hu129 := Try.underlying129
  have HB := Aside0.mk (Below.refl w.heap.size w)
  have H : ((latheref02_Of.f a0).bind fun bt132 => ((latheref02_Of.f a1).bind fun bt138 => ((latheref02_nan.f bt132.1 bt132.2.1 bt132.2.2.1 bt132.2.2.2.1 bt132.2.2.2.2 bt138.1 bt138.2.1 bt138.2.2.1 bt138.2.2.2.1 bt138.2.2.2.2).bind fun t144 => (if t144 = true then (latheref02_Add.j0 k true bt132.1 bt132.2.1 bt132.2.2.1 bt132.2.2.2.1 bt132.2.2.2.2 bt138.1 bt138.2.1 bt138.2.2.1 bt138.2.2.2.1 bt138.2.2.2.2) else (if bt132.2.2.2.1 = true then (if bt138.2.2.2.1 = true then (latheref02_Add.j0 k (bt132.1 != bt138.1) bt132.1 bt132.2.1 bt132.2.2.1 bt132.2.2.2.1 bt132.2.2.2.2 bt138.1 bt138.2.1 bt138.2.2.1 bt138.2.2.2.1 bt138.2.2.2.2) else (latheref02_Add.j0 k false bt132.1 bt132.2.1 bt132.2.2.1 bt132.2.2.2.1 bt132.2.2.2.2 bt138.1 bt138.2.1 bt138.2.2.1 bt138.2.2.2.1 bt138.2.2.2.2)) else (latheref02_Add.j0 k false bt132.1 bt132.2.1 bt132.2.2.1 bt132.2.2.2.1 bt132.2.2.2.2 bt138.1 bt138.2.1 bt138.2.2.1 bt138.2.2.2.1 bt138.2.2.2.2)))))) = some r := h
  clear h
  replace H := Option.bind_eq_some_iff.mp H
  obtain ⟨⟨t132, t133, t134, t135, t136⟩, A30, H⟩ := H
  replace H : ((latheref02_Of.f a1).bind fun bt138 => ((latheref02_nan.f t132 t133 t134 t135 t136 bt138.1 bt138.2.1 bt138.2.2.1 bt138.2.2.2.1 bt138.2.2.2.2).bind fun t144 => (if t144 = true then (latheref02_Add.j0 k true t132 t133 t134 t135 t136 bt138.1 bt138.2.1 bt138.2.2.1 bt138.2.2.2.1 bt138.2.2.2.2) else (if t135 = true then (if bt138.2.2.2.1 = true then (latheref02_Add.j0 k (t132 != bt138.1) t132 t133 t134 t135 t136 bt138.1 bt138.2.1 bt138.2.2.1 bt138.2.2.2.1 bt138.2.2.2.2) else (latheref02_Add.j0 k false t132 t133 t134 t135 t136 bt138.1 bt138.2.1 bt138.2.2.1 bt138.2.2.2.1 bt138.2.2.2.2)) else (latheref02_Add.j0 k false t132 t133 t134 t135 t136 bt138.1 bt138.2.1 bt138.2.2.1 bt138.2.2.2.1 bt138.2.2.2.2))))) = some r := H
  have A3 := Aside0.mk A30
  clear A30
  replace H := Option.bind_eq_some_iff.mp H
  obtain ⟨⟨t138, t139, t140, t141, t142⟩, A40, H⟩ := H
  replace H : ((latheref02_nan.f t132 t133 t134 t135 t136 t138 t139 t140 t141 t142).bind fun t144 => (if t144 = true then (latheref02_Add.j0 k true t132 t133 t134 t135 t136 t138 t139 t140 t141 t142) else (if t135 = true then (if t141 = true then (latheref02_Add.j0 k (t132 != t138) t132 t133 t134 t135 t136 t138 t139 t140 t141 t142) else (latheref02_Add.j0 k false t132 t133 t134 t135 t136 t138 t139 t140 t141 t142)) else (latheref02_Add.j0 k false t132 t133 t134 t135 t136 t138 t139 t140 t141 t142)))) = some r := H
  have A4 := Aside0.mk A40
  clear A40
  have HC5 := Aside0.mk H
  clear H
  go_enter Try.func72, Try.ntmps72
  go_upto_region 3 with (first | ((with_reducible refine gate_callee (f := 119) rfl ?_); refine goesL_ (some 8) rfl rfl Try.func119 (by kernel_rfl) rfl #[.int .i64 a0] rfl (by (try simp only [List.map_toArray, List.map_cons, List.map_nil]); first | done | rfl | (simp only [List.length_drop, List.length_take]; rfl)) ?_; (with_reducible refine (latheref02_Of.calls a0 t132 t133 t134 t135 t136 _ A3.out).mono ?_); clear A3; rintro e w6 ⟨rfl, hb⟩; refine ⟨_, rfl, ?_⟩; have n0_ := Aside0.mk (below_step (by repeat (first | (with_reducible first | exact HB.out | apply below_alloc | apply pw_below_drewN | apply below_drew1) | exact HB.out)) hb); clear HB; have HB := n0_; clear n0_; (try clear hb); (try clear hb2); (try clear hk); (try clear hi)) | ((with_reducible refine gate_dst (N := 5) rfl ?_); refine box_event ?hg (N := 5) ?hd (cs := #[.bool false, .int .u64 0, .int .i64 0, .bool false, .bool false]) (t := 129) ?hr ?_; (case hd => rfl); (case hg => rfl); (case hr => first | (go_simp; done) | (go_simp; rfl)); intro gb137 hg w7 hbox hb; have n0_ := Aside0.mk (below_step (by repeat (first | (with_reducible first | exact HB.out | apply below_alloc | apply pw_below_drewN | apply below_drew1) | exact HB.out)) hb); have n1_ := Aside0.mk (hbox); have n2_ := Aside0.mk ((by rw [hg]; exact (below_size (by repeat (first | (with_reducible first | exact HB.out | apply below_alloc | apply pw_below_drewN | apply below_drew1) | exact HB.out))) : w.heap.size ≤ gb137)); have n3_ := Aside0.mk ((by rw [hg]; exact (below_size (by repeat (first | (with_reducible first | exact HB.out | apply below_alloc | apply pw_below_drewN | apply below_drew1) | exact HB.out))) : w.heap.size ≤ gb137)); clear HB; have HB := n0_; have BK137 := n1_; have GW137 := n2_; have GE137 := n3_; clear n0_ n1_ n2_ n3_; clear hb hbox hg; have hcz8_0 : w7.cell? ⟨gb137, 0, none⟩ = some (.bool false) := (blk_cell BK137.out 0).trans rfl; have hcz8_1 : w7.cell? ⟨gb137, 1, none⟩ = some (.int .u64 0) := (blk_cell BK137.out 1).trans rfl; have hcz8_2 : w7.cell? ⟨gb137, 2, none⟩ = some (.int .i64 0) := (blk_cell BK137.out 2).trans rfl; have hcz8_3 : w7.cell? ⟨gb137, 3, none⟩ = some (.bool false) := (blk_cell BK137.out 3).trans rfl; have hcz8_4 : w7.cell? ⟨gb137, 4, none⟩ = some (.bool false) := (blk_cell BK137.out 4).trans rfl; have hfz8_0 := blk_frozen BK137.out 0; have hfz8_1 := blk_frozen BK137.out 1; have hfz8_2 := blk_frozen BK137.out 2; have hfz8_3 := blk_frozen BK137.out 3; have hfz8_4 := blk_frozen BK137.out 4) | ((with_reducible refine gate_callee (f := 119) rfl ?_); refine goesL_ (some 10) rfl rfl Try.func119 (by kernel_rfl) rfl #[.int .i64 a1] rfl (by (try simp only [List.map_toArray, List.map_cons, List.map_nil]); first | done | rfl | (simp only [List.length_drop, List.length_take]; rfl)) ?_; (with_reducible refine (latheref02_Of.calls a1 t138 t139 t140 t141 t142 _ A4.out).mono ?_); clear A4; rintro e w9 ⟨rfl, hb⟩; refine ⟨_, rfl, ?_⟩; have n0_ := Aside0.mk (blk_below (g := gb137) (o := .cells #[.bool t132, .int .u64 t133, .int .i64 t134, .bool t135, .bool t136] 129 (0, 0)) (by (with_reducible repeat (first | refine blk_drewN ?_ _ | refine blk_drew ?_ | refine blk_alloc ?_ _)); refine blk_put (cs := #[.bool t132, .int .u64 t133, .int .i64 t134, .bool t135, .bool false]) ?_ 4 _ rfl; (with_reducible repeat (first | refine blk_drewN ?_ _ | refine blk_drew ?_ | refine blk_alloc ?_ _)); refine blk_put (cs := #[.bool t132, .int .u64 t133, .int .i64 t134, .bool false, .bool false]) ?_ 3 _ rfl; (with_reducible repeat (first | refine blk_drewN ?_ _ | refine blk_drew ?_ | refine blk_alloc ?_ _)); refine blk_put (cs := #[.bool t132, .int .u64 t133, .int .i64 0, .bool false, .bool false]) ?_ 2 _ rfl; (with_reducible repeat (first | refine blk_drewN ?_ _ | refine blk_drew ?_ | refine blk_alloc ?_ _)); refine blk_put (cs := #[.bool t132, .int .u64 0, .int .i64 0, .bool false, .bool false]) ?_ 1 _ rfl; (with_reducible repeat (first | refine blk_drewN ?_ _ | refine blk_drew ?_ | refine blk_alloc ?_ _)); refine blk_put (cs := #[.bool false, .int .u64 0, .int .i64 0, .bool false, .bool false]) ?_ 0 _ rfl; (with_reducible repeat (first | refine blk_drewN ?_ _ | refine blk_drew ?_ | refine blk_alloc ?_ _)); exact BK137.out) hb); have n1_ := Aside0.mk (below_step (by repeat (first | (with_reducible first | exact HB.out | apply below_alloc | apply pw_below_drewN | apply below_drew1 | refine below_set ?_ GE137.out) | exact HB.out)) hb); clear BK137; clear HB; have BK137 := n0_; have HB := n1_; clear n0_ n1_; (try clear hb); (try clear hb2); (try clear hk); (try clear hi)) | ((with_reducible refine gate_dst (N := 6) rfl ?_); refine box_event ?hg (N := 6) ?hd (cs := #[.bool false, .int .u64 0, .int .i64 0, .bool false, .bool false]) (t := 129) ?hr ?_; (case hd => rfl); (case hg => rfl); (case hr => first | (go_simp; done) | (go_simp; rfl)); intro gb143 hg w10 hbox hb; have n0_ := Aside0.mk (blk_below (g := gb137) (o := .cells #[.bool t132, .int .u64 t133, .int .i64 t134, .bool t135, .bool t136] 129 (0, 0)) (by (with_reducible repeat (first | refine blk_drewN ?_ _ | refine blk_drew ?_ | refine blk_alloc ?_ _)); exact BK137.out) hb); have n1_ := Aside0.mk (below_step (by repeat (first | (with_reducible first | exact HB.out | apply below_alloc | apply pw_below_drewN | apply below_drew1 | refine below_set ?_ GE137.out) | exact HB.out)) hb); have n2_ := Aside0.mk (hbox); have n3_ := Aside0.mk ((by rw [hg]; exact (below_size (by repeat (first | (with_reducible first | exact HB.out | apply below_alloc | apply pw_below_drewN | apply below_drew1 | refine below_set ?_ GE137.out) | exact HB.out))) : w.heap.size ≤ gb143)); have n4_ := Aside0.mk ((by rw [hg]; exact (below_size (by repeat (first | (with_reducible first | exact HB.out | apply below_alloc | apply pw_below_drewN | apply below_drew1 | refine below_set ?_ GE137.out) | exact HB.out))) : w.heap.size ≤ gb143)); have n5_ := Aside0.mk ((by rw [hg]; exact Nat.ne_of_lt (blk_lt (g := gb137) (o := .cells #[.bool t132, .int .u64 t133, .int .i64 t134, .bool t135, .bool t136] 129 (0, 0)) (by (with_reducible repeat (first | refine blk_drewN ?_ _ | refine blk_drew ?_ | refine blk_alloc ?_ _)); exact BK137.out)) : gb137 ≠ gb143)); have n6_ := Aside0.mk ((by rw [hg]; exact Nat.ne_of_gt (blk_lt (g := gb137) (o := .cells #[.bool t132, .int .u64 t133, .int .i64 t134, .bool t135, .bool t136] 129 (0, 0)) (by (with_reducible repeat (first | refine blk_drewN ?_ _ | refine blk_drew ?_ | refine blk_alloc ?_ _)); exact BK137.out)) : gb143 ≠ gb137)); clear BK137; clear HB; have BK137 := n0_; have HB := n1_; have BK143 := n2_; have GW143 := n3_; have GE143 := n4_; have NB137_143 := n5_; have NB143_137 := n6_; clear n0_ n1_ n2_ n3_ n4_ n5_ n6_; clear hb hbox hg; have hnb11 := NB143_137.out; have hnc11 := NB137_143.out; have hcz12_0 : w10.cell? ⟨gb143, 0, none⟩ = some (.bool false) := (blk_cell BK143.out 0).trans rfl; have hcz12_1 : w10.cell? ⟨gb143, 1, none⟩ = some (.int .u64 0) := (blk_cell BK143.out 1).trans rfl; have hcz12_2 : w10.cell? ⟨gb143, 2, none⟩ = some (.int .i64 0) := (blk_cell BK143.out 2).trans rfl; have hcz12_3 : w10.cell? ⟨gb143, 3, none⟩ = some (.bool false) := (blk_cell BK143.out 3).trans rfl; have hcz12_4 : w10.cell? ⟨gb143, 4, none⟩ = some (.bool false) := (blk_cell BK143.out 4).trans rfl; have hfz12_0 := blk_frozen BK143.out 0; have hfz12_1 := blk_frozen BK143.out 1; have hfz12_2 := blk_frozen BK143.out 2; have hfz12_3 := blk_frozen BK143.out 3; have hfz12_4 := blk_frozen BK143.out 4))
  (try simp only [Act.put, List.setIfInBounds_toArray, List.set_cons_zero, List.set_cons_succ])
  go_cut [11] (fun v11 wc => ∃ (kq : Nat) (x11_4 : Bool), v11 = .bool x11_4 ∧ Aside0 (latheref02_Add.j0 kq x11_4 t132 t133 t134 t135 t136 t138 t139 t140 t141 t142 = some r) ∧ Aside0 (kq ≤ k) ∧ Aside0 (wc.heap[gb137]? = some (.cells #[.bool t132, .int .u64 t133, .int .i64 t134, .bool t135, .bool t136] 129 (0, 0))) ∧ Aside0 (wc.heap[gb143]? = some (.cells #[.bool t138, .int .u64 t139, .int .i64 t140, .bool t141, .bool t142] 129 (0, 0))) ∧ Aside0 (Below w.heap.size w wc))
  case first =>
    have H := HC5.out
    clear HC5
    replace H := Option.bind_eq_some_iff.mp H
    obtain ⟨t144, A130, H⟩ := H
    replace H : (if t144 = true then (latheref02_Add.j0 k true t132 t133 t134 t135 t136 t138 t139 t140 t141 t142) else (if t135 = true then (if t141 = true then (latheref02_Add.j0 k (t132 != t138) t132 t133 t134 t135 t136 t138 t139 t140 t141 t142) else (latheref02_Add.j0 k false t132 t133 t134 t135 t136 t138 t139 t140 t141 t142)) else (latheref02_Add.j0 k false t132 t133 t134 t135 t136 t138 t139 t140 t141 t142))) = some r := H
    have A13 := Aside0.mk A130
    clear A130
    by_cases c14 : t144 = true
    · subst c14
      have H1 : (latheref02_Add.j0 k true t132 t133 t134 t135 t136 t138 t139 t140 t141 t142) = some r := by rw [if_pos rfl] at H; exact H
      clear H
      have H := H1
      clear H1
      have H' := Aside0.mk H
      clear H
      have hnb15 := NB137_143.out
      have hnc15 := NB143_137.out
      have hcz16_0 : w10.cell? ⟨gb137, 0, none⟩ = some (.bool t132) := (blk_cell BK137.out 0).trans rfl
      have hcz16_1 : w10.cell? ⟨gb137, 1, none⟩ = some (.int .u64 t133) := (blk_cell BK137.out 1).trans rfl
      have hcz16_2 : w10.cell? ⟨gb137, 2, none⟩ = some (.int .i64 t134) := (blk_cell BK137.out 2).trans rfl
      have hcz16_3 : w10.cell? ⟨gb137, 3, none⟩ = some (.bool t135) := (blk_cell BK137.out 3).trans rfl
      have hcz16_4 : w10.cell? ⟨gb137, 4, none⟩ = some (.bool t136) := (blk_cell BK137.out 4).trans rfl
      have hfz16_0 := blk_frozen BK137.out 0
      have hfz16_1 := blk_frozen BK137.out 1
      have hfz16_2 := blk_frozen BK137.out 2
      have hfz16_3 := blk_frozen BK137.out 3
      have hfz16_4 := blk_frozen BK137.out 4
      have hcz17_0 : w10.cell? ⟨gb143, 0, none⟩ = some (.bool false) := (blk_cell BK143.out 0).trans rfl
      have hcz17_1 : w10.cell? ⟨gb143, 1, none⟩ = some (.int .u64 0) := (blk_cell BK143.out 1).trans rfl
      have hcz17_2 : w10.cell? ⟨gb143, 2, none⟩ = some (.int .i64 0) := (blk_cell BK143.out 2).trans rfl
      have hcz17_3 : w10.cell? ⟨gb143, 3, none⟩ = some (.bool false) := (blk_cell BK143.out 3).trans rfl
      have hcz17_4 : w10.cell? ⟨gb143, 4, none⟩ = some (.bool false) := (blk_cell BK143.out 4).trans rfl
      have hfz17_0 := blk_frozen BK143.out 0
      have hfz17_1 := blk_frozen BK143.out 1
      have hfz17_2 := blk_frozen BK143.out 2
      have hfz17_3 := blk_frozen BK143.out 3
      have hfz17_4 := blk_frozen BK143.out 4
      go_wp2_with (first | ((with_reducible refine gate_callee (f := 120) rfl ?_); refine goesL_ (some 14) rfl rfl Try.func120 (by kernel_rfl) rfl #[.agg #[.bool t132, .int .u64 t133, .int .i64 t134, .bool t135, .bool t136], .agg #[.bool t138, .int .u64 t139, .int .i64 t140, .bool t141, .bool t142]] rfl (by (try simp only [List.map_toArray, List.map_cons, List.map_nil]); first | done | rfl | (simp only [List.length_drop, List.length_take]; rfl)) ?_; (with_reducible refine (latheref02_nan.calls t132 t133 t134 t135 t136 t138 t139 t140 t141 t142 true _ A13.out).mono ?_); clear A13; rintro e w18 ⟨rfl, hb⟩; refine ⟨_, rfl, ?_⟩; have n0_ := Aside0.mk (blk_below (g := gb137) (o := .cells #[.bool t132, .int .u64 t133, .int .i64 t134, .bool t135, .bool t136] 129 (0, 0)) (by (with_reducible repeat (first | refine blk_drewN ?_ _ | refine blk_drew ?_ | refine blk_alloc ?_ _)); refine blk_far ?_ NB137_143.out _; (with_reducible repeat (first | refine blk_drewN ?_ _ | refine blk_drew ?_ | refine blk_alloc ?_ _)); refine blk_far ?_ NB137_143.out _; (with_reducible repeat (first | refine blk_drewN ?_ _ | refine blk_drew ?_ | refine blk_alloc ?_ _)); refine blk_far ?_ NB137_143.out _; (with_reducible repeat (first | refine blk_drewN ?_ _ | refine blk_drew ?_ | refine blk_alloc ?_ _)); refine blk_far ?_ NB137_143.out _; (with_reducible repeat (first | refine blk_drewN ?_ _ | refine blk_drew ?_ | refine blk_alloc ?_ _)); refine blk_far ?_ NB137_143.out _; (with_reducible repeat (first | refine blk_drewN ?_ _ | refine blk_drew ?_ | refine blk_alloc ?_ _)); exact BK137.out) hb); have n1_ := Aside0.mk (blk_below (g := gb143) (o := .cells #[.bool t138, .int .u64 t139, .int .i64 t140, .bool t141, .bool t142] 129 (0, 0)) (by (with_reducible repeat (first | refine blk_drewN ?_ _ | refine blk_drew ?_ | refine blk_alloc ?_ _)); refine blk_put (cs := #[.bool t138, .int .u64 t139, .int .i64 t140, .bool t141, .bool false]) ?_ 4 _ rfl; (with_reducible repeat (first | refine blk_drewN ?_ _ | refine blk_drew ?_ | refine blk_alloc ?_ _)); refine blk_put (cs := #[.bool t138, .int .u64 t139, .int .i64 t140, .bool false, .bool false]) ?_ 3 _ rfl; (with_reducible repeat (first | refine blk_drewN ?_ _ | refine blk_drew ?_ | refine blk_alloc ?_ _)); refine blk_put (cs := #[.bool t138, .int .u64 t139, .int .i64 0, .bool false, .bool false]) ?_ 2 _ rfl; (with_reducible repeat (first | refine blk_drewN ?_ _ | refine blk_drew ?_ | refine blk_alloc ?_ _)); refine blk_put (cs := #[.bool t138, .int .u64 0, .int .i64 0, .bool false, .bool false]) ?_ 1 _ rfl; (with_reducible repeat (first | refine blk_drewN ?_ _ | refine blk_drew ?_ | refine blk_alloc ?_ _)); refine blk_put (cs := #[.bool false, .int .u64 0, .int .i64 0, .bool false, .bool false]) ?_ 0 _ rfl; (with_reducible repeat (first | refine blk_drewN ?_ _ | refine blk_drew ?_ | refine blk_alloc ?_ _)); exact BK143.out) hb); have n2_ := Aside0.mk (below_step (by repeat (first | (with_reducible first | exact HB.out | apply below_alloc | apply pw_below_drewN | apply below_drew1 | refine below_set ?_ GE137.out | refine below_set ?_ GE143.out) | exact HB.out)) hb); clear BK137; clear BK143; clear HB; have BK137 := n0_; have BK143 := n1_; have HB := n2_; clear n0_ n1_ n2_; (try clear hb); (try clear hb2); (try clear hk); (try clear hi)))
      go_meet
      case rel => exact ⟨_, (true), (by first | rfl | (simp; done) | (simp [*]; done)), H', ⟨by first | omega | exact Nat.le_refl _⟩, ⟨by (with_reducible repeat (first | refine blk_drewN ?_ _ | refine blk_drew ?_ | refine blk_alloc ?_ _)); exact BK137.out⟩, ⟨by (with_reducible repeat (first | refine blk_drewN ?_ _ | refine blk_drew ?_ | refine blk_alloc ?_ _)); exact BK143.out⟩, ⟨by repeat (first | (with_reducible first | exact HB.out | apply below_alloc | apply pw_below_drewN | apply below_drew1 | refine below_set ?_ GE137.out | refine below_set ?_ GE143.out) | exact HB.out)⟩⟩
    · replace c14 := Bool.eq_false_iff.mpr c14
      subst c14
      have H1 : (if t135 = true then (if t141 = true then (latheref02_Add.j0 k (t132 != t138) t132 t133 t134 t135 t136 t138 t139 t140 t141 t142) else (latheref02_Add.j0 k false t132 t133 t134 t135 t136 t138 t139 t140 t141 t142)) else (latheref02_Add.j0 k false t132 t133 t134 t135 t136 t138 t139 t140 t141 t142)) = some r := by rw [if_neg (show ¬ (false = true) by decide)] at H; exact H
      clear H
      have H := H1
      clear H1
      by_cases c19 : t135 = true
      · subst c19
        have H1 : (if t141 = true then (latheref02_Add.j0 k (t132 != t138) t132 t133 t134 true t136 t138 t139 t140 t141 t142) else (latheref02_Add.j0 k false t132 t133 t134 true t136 t138 t139 t140 t141 t142)) = some r := by rw [if_pos rfl] at H; exact H
        clear H
        have H := H1
        clear H1
        by_cases c20 : t141 = true
        · subst c20
          have H1 : (latheref02_Add.j0 k (t132 != t138) t132 t133 t134 true t136 t138 t139 t140 true t142) = some r := by rw [if_pos rfl] at H; exact H
          clear H
          have H := H1
          clear H1
          have H' := Aside0.mk H
          clear H
          have hnb21 := NB137_143.out
          have hnc21 := NB143_137.out
          have hcz22_0 : w10.cell? ⟨gb137, 0, none⟩ = some (.bool t132) := (blk_cell BK137.out 0).trans rfl
          have hcz22_1 : w10.cell? ⟨gb137, 1, none⟩ = some (.int .u64 t133) := (blk_cell BK137.out 1).trans rfl
          have hcz22_2 : w10.cell? ⟨gb137, 2, none⟩ = some (.int .i64 t134) := (blk_cell BK137.out 2).trans rfl
          have hcz22_3 : w10.cell? ⟨gb137, 3, none⟩ = some (.bool true) := (blk_cell BK137.out 3).trans rfl
          have hcz22_4 : w10.cell? ⟨gb137, 4, none⟩ = some (.bool t136) := (blk_cell BK137.out 4).trans rfl
          have hfz22_0 := blk_frozen BK137.out 0
          have hfz22_1 := blk_frozen BK137.out 1
          have hfz22_2 := blk_frozen BK137.out 2
          have hfz22_3 := blk_frozen BK137.out 3
          have hfz22_4 := blk_frozen BK137.out 4
          have hcz23_0 : w10.cell? ⟨gb143, 0, none⟩ = some (.bool false) := (blk_cell BK143.out 0).trans rfl
          have hcz23_1 : w10.cell? ⟨gb143, 1, none⟩ = some (.int .u64 0) := (blk_cell BK143.out 1).trans rfl
          have hcz23_2 : w10.cell? ⟨gb143, 2, none⟩ = some (.int .i64 0) := (blk_cell BK143.out 2).trans rfl
          have hcz23_3 : w10.cell? ⟨gb143, 3, none⟩ = some (.bool false) := (blk_cell BK143.out 3).trans rfl
          have hcz23_4 : w10.cell? ⟨gb143, 4, none⟩ = some (.bool false) := (blk_cell BK143.out 4).trans rfl
          have hfz23_0 := blk_frozen BK143.out 0
          have hfz23_1 := blk_frozen BK143.out 1
          have hfz23_2 := blk_frozen BK143.out 2
          have hfz23_3 := blk_frozen BK143.out 3
          have hfz23_4 := blk_frozen BK143.out 4
          go_wp2_with (first | ((with_reducible refine gate_callee (f := 120) rfl ?_); refine goesL_ (some 14) rfl rfl Try.func120 (by kernel_rfl) rfl #[.agg #[.bool t132, .int .u64 t133, .int .i64 t134, .bool true, .bool t136], .agg #[.bool t138, .int .u64 t139, .int .i64 t140, .bool true, .bool t142]] rfl (by (try simp only [List.map_toArray, List.map_cons, List.map_nil]); first | done | rfl | (simp only [List.length_drop, List.length_take]; rfl)) ?_; (with_reducible refine (latheref02_nan.calls t132 t133 t134 true t136 t138 t139 t140 true t142 false _ A13.out).mono ?_); clear A13; rintro e w24 ⟨rfl, hb⟩; refine ⟨_, rfl, ?_⟩; have n0_ := Aside0.mk (blk_below (g := gb137) (o := .cells #[.bool t132, .int .u64 t133, .int .i64 t134, .bool true, .bool t136] 129 (0, 0)) (by (with_reducible repeat (first | refine blk_drewN ?_ _ | refine blk_drew ?_ | refine blk_alloc ?_ _)); refine blk_far ?_ NB137_143.out _; (with_reducible repeat (first | refine blk_drewN ?_ _ | refine blk_drew ?_ | refine blk_alloc ?_ _)); refine blk_far ?_ NB137_143.out _; (with_reducible repeat (first | refine blk_drewN ?_ _ | refine blk_drew ?_ | refine blk_alloc ?_ _)); refine blk_far ?_ NB137_143.out _; (with_reducible repeat (first | refine blk_drewN ?_ _ | refine blk_drew ?_ | refine blk_alloc ?_ _)); refine blk_far ?_ NB137_143.out _; (with_reducible repeat (first | refine blk_drewN ?_ _ | refine blk_drew ?_ | refine blk_alloc ?_ _)); refine blk_far ?_ NB137_143.out _; (with_reducible repeat (first | refine blk_drewN ?_ _ | refine blk_drew ?_ | refine blk_alloc ?_ _)); exact BK137.out) hb); have n1_ := Aside0.mk (blk_below (g := gb143) (o := .cells #[.bool t138, .int .u64 t139, .int .i64 t140, .bool true, .bool t142] 129 (0, 0)) (by (with_reducible repeat (first | refine blk_drewN ?_ _ | refine blk_drew ?_ | refine blk_alloc ?_ _)); refine blk_put (cs := #[.bool t138, .int .u64 t139, .int .i64 t140, .bool true, .bool false]) ?_ 4 _ rfl; (with_reducible repeat (first | refine blk_drewN ?_ _ | refine blk_drew ?_ | refine blk_alloc ?_ _)); refine blk_put (cs := #[.bool t138, .int .u64 t139, .int .i64 t140, .bool false, .bool false]) ?_ 3 _ rfl; (with_reducible repeat (first | refine blk_drewN ?_ _ | refine blk_drew ?_ | refine blk_alloc ?_ _)); refine blk_put (cs := #[.bool t138, .int .u64 t139, .int .i64 0, .bool false, .bool false]) ?_ 2 _ rfl; (with_reducible repeat (first | refine blk_drewN ?_ _ | refine blk_drew ?_ | refine blk_alloc ?_ _)); refine blk_put (cs := #[.bool t138, .int .u64 0, .int .i64 0, .bool false, .bool false]) ?_ 1 _ rfl; (with_reducible repeat (first | refine blk_drewN ?_ _ | refine blk_drew ?_ | refine blk_alloc ?_ _)); refine blk_put (cs := #[.bool false, .int .u64 0, .int .i64 0, .bool false, .bool false]) ?_ 0 _ rfl; (with_reducible repeat (first | refine blk_drewN ?_ _ | refine blk_drew ?_ | refine blk_alloc ?_ _)); exact BK143.out) hb); have n2_ := Aside0.mk (below_step (by repeat (first | (with_reducible first | exact HB.out | apply below_alloc | apply pw_below_drewN | apply below_drew1 | refine below_set ?_ GE137.out | refine below_set ?_ GE143.out) | exact HB.out)) hb); clear BK137; clear BK143; clear HB; have BK137 := n0_; have BK143 := n1_; have HB := n2_; clear n0_ n1_ n2_; (try clear hb); (try clear hb2); (try clear hk); (try clear hi); have hcz25_0 : w24.cell? ⟨gb137, 0, none⟩ = some (.bool t132) := (blk_cell BK137.out 0).trans rfl; have hcz25_1 : w24.cell? ⟨gb137, 1, none⟩ = some (.int .u64 t133) := (blk_cell BK137.out 1).trans rfl; have hcz25_2 : w24.cell? ⟨gb137, 2, none⟩ = some (.int .i64 t134) := (blk_cell BK137.out 2).trans rfl; have hcz25_3 : w24.cell? ⟨gb137, 3, none⟩ = some (.bool true) := (blk_cell BK137.out 3).trans rfl; have hcz25_4 : w24.cell? ⟨gb137, 4, none⟩ = some (.bool t136) := (blk_cell BK137.out 4).trans rfl; have hfz25_0 := blk_frozen BK137.out 0; have hfz25_1 := blk_frozen BK137.out 1; have hfz25_2 := blk_frozen BK137.out 2; have hfz25_3 := blk_frozen BK137.out 3; have hfz25_4 := blk_frozen BK137.out 4; have hcz26_0 : w24.cell? ⟨gb143, 0, none⟩ = some (.bool t138) := (blk_cell BK143.out 0).trans rfl; have hcz26_1 : w24.cell? ⟨gb143, 1, none⟩ = some (.int .u64 t139) := (blk_cell BK143.out 1).trans rfl; have hcz26_2 : w24.cell? ⟨gb143, 2, none⟩ = some (.int .i64 t140) := (blk_cell BK143.out 2).trans rfl; have hcz26_3 : w24.cell? ⟨gb143, 3, none⟩ = some (.bool true) := (blk_cell BK143.out 3).trans rfl; have hcz26_4 : w24.cell? ⟨gb143, 4, none⟩ = some (.bool t142) := (blk_cell BK143.out 4).trans rfl; have hfz26_0 := blk_frozen BK143.out 0; have hfz26_1 := blk_frozen BK143.out 1; have hfz26_2 := blk_frozen BK143.out 2; have hfz26_3 := blk_frozen BK143.out 3; have hfz26_4 := blk_frozen BK143.out 4))
          go_meet
          case rel => exact ⟨_, ((t132 != t138)), (by first | rfl | (simp; done) | (simp [*]; done)), H', ⟨by first | omega | exact Nat.le_refl _⟩, ⟨by (with_reducible repeat (first | refine blk_drewN ?_ _ | refine blk_drew ?_ | refine blk_alloc ?_ _)); exact BK137.out⟩, ⟨by (with_reducible repeat (first | refine blk_drewN ?_ _ | refine blk_drew ?_ | refine blk_alloc ?_ _)); exact BK143.out⟩, ⟨by repeat (first | (with_reducible first | exact HB.out | apply below_alloc | apply pw_below_drewN | apply below_drew1 | refine below_set ?_ GE137.out | refine below_set ?_ GE143.out) | exact HB.out)⟩⟩
        · replace c20 := Bool.eq_false_iff.mpr c20
          subst c20
          have H1 : (latheref02_Add.j0 k false t132 t133 t134 true t136 t138 t139 t140 false t142) = some r := by rw [if_neg (show ¬ (false = true) by decide)] at H; exact H
          clear H
          have H := H1
          clear H1
          have H' := Aside0.mk H
          clear H
          have hnb27 := NB137_143.out
          have hnc27 := NB143_137.out
          have hcz28_0 : w10.cell? ⟨gb137, 0, none⟩ = some (.bool t132) := (blk_cell BK137.out 0).trans rfl
          have hcz28_1 : w10.cell? ⟨gb137, 1, none⟩ = some (.int .u64 t133) := (blk_cell BK137.out 1).trans rfl
          have hcz28_2 : w10.cell? ⟨gb137, 2, none⟩ = some (.int .i64 t134) := (blk_cell BK137.out 2).trans rfl
          have hcz28_3 : w10.cell? ⟨gb137, 3, none⟩ = some (.bool true) := (blk_cell BK137.out 3).trans rfl
          have hcz28_4 : w10.cell? ⟨gb137, 4, none⟩ = some (.bool t136) := (blk_cell BK137.out 4).trans rfl
          have hfz28_0 := blk_frozen BK137.out 0
          have hfz28_1 := blk_frozen BK137.out 1
          have hfz28_2 := blk_frozen BK137.out 2
          have hfz28_3 := blk_frozen BK137.out 3
          have hfz28_4 := blk_frozen BK137.out 4
          have hcz29_0 : w10.cell? ⟨gb143, 0, none⟩ = some (.bool false) := (blk_cell BK143.out 0).trans rfl
          have hcz29_1 : w10.cell? ⟨gb143, 1, none⟩ = some (.int .u64 0) := (blk_cell BK143.out 1).trans rfl
          have hcz29_2 : w10.cell? ⟨gb143, 2, none⟩ = some (.int .i64 0) := (blk_cell BK143.out 2).trans rfl
          have hcz29_3 : w10.cell? ⟨gb143, 3, none⟩ = some (.bool false) := (blk_cell BK143.out 3).trans rfl
          have hcz29_4 : w10.cell? ⟨gb143, 4, none⟩ = some (.bool false) := (blk_cell BK143.out 4).trans rfl
          have hfz29_0 := blk_frozen BK143.out 0
          have hfz29_1 := blk_frozen BK143.out 1
          have hfz29_2 := blk_frozen BK143.out 2
          have hfz29_3 := blk_frozen BK143.out 3
          have hfz29_4 := blk_frozen BK143.out 4
          go_wp2_with (first | ((with_reducible refine gate_callee (f := 120) rfl ?_); refine goesL_ (some 14) rfl rfl Try.func120 (by kernel_rfl) rfl #[.agg #[.bool t132, .int .u64 t133, .int .i64 t134, .bool true, .bool t136], .agg #[.bool t138, .int .u64 t139, .int .i64 t140, .bool false, .bool t142]] rfl (by (try simp only [List.map_toArray, List.map_cons, List.map_nil]); first | done | rfl | (simp only [List.length_drop, List.length_take]; rfl)) ?_; (with_reducible refine (latheref02_nan.calls t132 t133 t134 true t136 t138 t139 t140 false t142 false _ A13.out).mono ?_); clear A13; rintro e w30 ⟨rfl, hb⟩; refine ⟨_, rfl, ?_⟩; have n0_ := Aside0.mk (blk_below (g := gb137) (o := .cells #[.bool t132, .int .u64 t133, .int .i64 t134, .bool true, .bool t136] 129 (0, 0)) (by (with_reducible repeat (first | refine blk_drewN ?_ _ | refine blk_drew ?_ | refine blk_alloc ?_ _)); refine blk_far ?_ NB137_143.out _; (with_reducible repeat (first | refine blk_drewN ?_ _ | refine blk_drew ?_ | refine blk_alloc ?_ _)); refine blk_far ?_ NB137_143.out _; (with_reducible repeat (first | refine blk_drewN ?_ _ | refine blk_drew ?_ | refine blk_alloc ?_ _)); refine blk_far ?_ NB137_143.out _; (with_reducible repeat (first | refine blk_drewN ?_ _ | refine blk_drew ?_ | refine blk_alloc ?_ _)); refine blk_far ?_ NB137_143.out _; (with_reducible repeat (first | refine blk_drewN ?_ _ | refine blk_drew ?_ | refine blk_alloc ?_ _)); refine blk_far ?_ NB137_143.out _; (with_reducible repeat (first | refine blk_drewN ?_ _ | refine blk_drew ?_ | refine blk_alloc ?_ _)); exact BK137.out) hb); have n1_ := Aside0.mk (blk_below (g := gb143) (o := .cells #[.bool t138, .int .u64 t139, .int .i64 t140, .bool false, .bool t142] 129 (0, 0)) (by (with_reducible repeat (first | refine blk_drewN ?_ _ | refine blk_drew ?_ | refine blk_alloc ?_ _)); refine blk_put (cs := #[.bool t138, .int .u64 t139, .int .i64 t140, .bool false, .bool false]) ?_ 4 _ rfl; (with_reducible repeat (first | refine blk_drewN ?_ _ | refine blk_drew ?_ | refine blk_alloc ?_ _)); refine blk_put (cs := #[.bool t138, .int .u64 t139, .int .i64 t140, .bool false, .bool false]) ?_ 3 _ rfl; (with_reducible repeat (first | refine blk_drewN ?_ _ | refine blk_drew ?_ | refine blk_alloc ?_ _)); refine blk_put (cs := #[.bool t138, .int .u64 t139, .int .i64 0, .bool false, .bool false]) ?_ 2 _ rfl; (with_reducible repeat (first | refine blk_drewN ?_ _ | refine blk_drew ?_ | refine blk_alloc ?_ _)); refine blk_put (cs := #[.bool t138, .int .u64 0, .int .i64 0, .bool false, .bool false]) ?_ 1 _ rfl; (with_reducible repeat (first | refine blk_drewN ?_ _ | refine blk_drew ?_ | refine blk_alloc ?_ _)); refine blk_put (cs := #[.bool false, .int .u64 0, .int .i64 0, .bool false, .bool false]) ?_ 0 _ rfl; (with_reducible repeat (first | refine blk_drewN ?_ _ | refine blk_drew ?_ | refine blk_alloc ?_ _)); exact BK143.out) hb); have n2_ := Aside0.mk (below_step (by repeat (first | (with_reducible first | exact HB.out | apply below_alloc | apply pw_below_drewN | apply below_drew1 | refine below_set ?_ GE137.out | refine below_set ?_ GE143.out) | exact HB.out)) hb); clear BK137; clear BK143; clear HB; have BK137 := n0_; have BK143 := n1_; have HB := n2_; clear n0_ n1_ n2_; (try clear hb); (try clear hb2); (try clear hk); (try clear hi); have hcz31_0 : w30.cell? ⟨gb137, 0, none⟩ = some (.bool t132) := (blk_cell BK137.out 0).trans rfl; have hcz31_1 : w30.cell? ⟨gb137, 1, none⟩ = some (.int .u64 t133) := (blk_cell BK137.out 1).trans rfl; have hcz31_2 : w30.cell? ⟨gb137, 2, none⟩ = some (.int .i64 t134) := (blk_cell BK137.out 2).trans rfl; have hcz31_3 : w30.cell? ⟨gb137, 3, none⟩ = some (.bool true) := (blk_cell BK137.out 3).trans rfl; have hcz31_4 : w30.cell? ⟨gb137, 4, none⟩ = some (.bool t136) := (blk_cell BK137.out 4).trans rfl; have hfz31_0 := blk_frozen BK137.out 0; have hfz31_1 := blk_frozen BK137.out 1; have hfz31_2 := blk_frozen BK137.out 2; have hfz31_3 := blk_frozen BK137.out 3; have hfz31_4 := blk_frozen BK137.out 4; have hcz32_0 : w30.cell? ⟨gb143, 0, none⟩ = some (.bool t138) := (blk_cell BK143.out 0).trans rfl; have hcz32_1 : w30.cell? ⟨gb143, 1, none⟩ = some (.int .u64 t139) := (blk_cell BK143.out 1).trans rfl; have hcz32_2 : w30.cell? ⟨gb143, 2, none⟩ = some (.int .i64 t140) := (blk_cell BK143.out 2).trans rfl; have hcz32_3 : w30.cell? ⟨gb143, 3, none⟩ = some (.bool false) := (blk_cell BK143.out 3).trans rfl; have hcz32_4 : w30.cell? ⟨gb143, 4, none⟩ = some (.bool t142) := (blk_cell BK143.out 4).trans rfl; have hfz32_0 := blk_frozen BK143.out 0; have hfz32_1 := blk_frozen BK143.out 1; have hfz32_2 := blk_frozen BK143.out 2; have hfz32_3 := blk_frozen BK143.out 3; have hfz32_4 := blk_frozen BK143.out 4))
          go_meet
          case rel => exact ⟨_, (false), (by first | rfl | (simp; done) | (simp [*]; done)), H', ⟨by first | omega | exact Nat.le_refl _⟩, ⟨by (with_reducible repeat (first | refine blk_drewN ?_ _ | refine blk_drew ?_ | refine blk_alloc ?_ _)); exact BK137.out⟩, ⟨by (with_reducible repeat (first | refine blk_drewN ?_ _ | refine blk_drew ?_ | refine blk_alloc ?_ _)); exact BK143.out⟩, ⟨by repeat (first | (with_reducible first | exact HB.out | apply below_alloc | apply pw_below_drewN | apply below_drew1 | refine below_set ?_ GE137.out | refine below_set ?_ GE143.out) | exact HB.out)⟩⟩
      · replace c19 := Bool.eq_false_iff.mpr c19
        subst c19
        have H1 : (latheref02_Add.j0 k false t132 t133 t134 false t136 t138 t139 t140 t141 t142) = some r := by rw [if_neg (show ¬ (false = true) by decide)] at H; exact H
        clear H
        have H := H1
        clear H1
        have H' := Aside0.mk H
        clear H
        have hnb33 := NB137_143.out
        have hnc33 := NB143_137.out
        have hcz34_0 : w10.cell? ⟨gb137, 0, none⟩ = some (.bool t132) := (blk_cell BK137.out 0).trans rfl
        have hcz34_1 : w10.cell? ⟨gb137, 1, none⟩ = some (.int .u64 t133) := (blk_cell BK137.out 1).trans rfl
        have hcz34_2 : w10.cell? ⟨gb137, 2, none⟩ = some (.int .i64 t134) := (blk_cell BK137.out 2).trans rfl
        have hcz34_3 : w10.cell? ⟨gb137, 3, none⟩ = some (.bool false) := (blk_cell BK137.out 3).trans rfl
        have hcz34_4 : w10.cell? ⟨gb137, 4, none⟩ = some (.bool t136) := (blk_cell BK137.out 4).trans rfl
        have hfz34_0 := blk_frozen BK137.out 0
        have hfz34_1 := blk_frozen BK137.out 1
        have hfz34_2 := blk_frozen BK137.out 2
        have hfz34_3 := blk_frozen BK137.out 3
        have hfz34_4 := blk_frozen BK137.out 4
        have hcz35_0 : w10.cell? ⟨gb143, 0, none⟩ = some (.bool false) := (blk_cell BK143.out 0).trans rfl
        have hcz35_1 : w10.cell? ⟨gb143, 1, none⟩ = some (.int .u64 0) := (blk_cell BK143.out 1).trans rfl
        have hcz35_2 : w10.cell? ⟨gb143, 2, none⟩ = some (.int .i64 0) := (blk_cell BK143.out 2).trans rfl
        have hcz35_3 : w10.cell? ⟨gb143, 3, none⟩ = some (.bool false) := (blk_cell BK143.out 3).trans rfl
        have hcz35_4 : w10.cell? ⟨gb143, 4, none⟩ = some (.bool false) := (blk_cell BK143.out 4).trans rfl
        have hfz35_0 := blk_frozen BK143.out 0
        have hfz35_1 := blk_frozen BK143.out 1
        have hfz35_2 := blk_frozen BK143.out 2
        have hfz35_3 := blk_frozen BK143.out 3
        have hfz35_4 := blk_frozen BK143.out 4
        go_wp2_with (first | ((with_reducible refine gate_callee (f := 120) rfl ?_); refine goesL_ (some 14) rfl rfl Try.func120 (by kernel_rfl) rfl #[.agg #[.bool t132, .int .u64 t133, .int .i64 t134, .bool false, .bool t136], .agg #[.bool t138, .int .u64 t139, .int .i64 t140, .bool t141, .bool t142]] rfl (by (try simp only [List.map_toArray, List.map_cons, List.map_nil]); first | done | rfl | (simp only [List.length_drop, List.length_take]; rfl)) ?_; (with_reducible refine (latheref02_nan.calls t132 t133 t134 false t136 t138 t139 t140 t141 t142 false _ A13.out).mono ?_); clear A13; rintro e w36 ⟨rfl, hb⟩; refine ⟨_, rfl, ?_⟩; have n0_ := Aside0.mk (blk_below (g := gb137) (o := .cells #[.bool t132, .int .u64 t133, .int .i64 t134, .bool false, .bool t136] 129 (0, 0)) (by (with_reducible repeat (first | refine blk_drewN ?_ _ | refine blk_drew ?_ | refine blk_alloc ?_ _)); refine blk_far ?_ NB137_143.out _; (with_reducible repeat (first | refine blk_drewN ?_ _ | refine blk_drew ?_ | refine blk_alloc ?_ _)); refine blk_far ?_ NB137_143.out _; (with_reducible repeat (first | refine blk_drewN ?_ _ | refine blk_drew ?_ | refine blk_alloc ?_ _)); refine blk_far ?_ NB137_143.out _; (with_reducible repeat (first | refine blk_drewN ?_ _ | refine blk_drew ?_ | refine blk_alloc ?_ _)); refine blk_far ?_ NB137_143.out _; (with_reducible repeat (first | refine blk_drewN ?_ _ | refine blk_drew ?_ | refine blk_alloc ?_ _)); refine blk_far ?_ NB137_143.out _; (with_reducible repeat (first | refine blk_drewN ?_ _ | refine blk_drew ?_ | refine blk_alloc ?_ _)); exact BK137.out) hb); have n1_ := Aside0.mk (blk_below (g := gb143) (o := .cells #[.bool t138, .int .u64 t139, .int .i64 t140, .bool t141, .bool t142] 129 (0, 0)) (by (with_reducible repeat (first | refine blk_drewN ?_ _ | refine blk_drew ?_ | refine blk_alloc ?_ _)); refine blk_put (cs := #[.bool t138, .int .u64 t139, .int .i64 t140, .bool t141, .bool false]) ?_ 4 _ rfl; (with_reducible repeat (first | refine blk_drewN ?_ _ | refine blk_drew ?_ | refine blk_alloc ?_ _)); refine blk_put (cs := #[.bool t138, .int .u64 t139, .int .i64 t140, .bool false, .bool false]) ?_ 3 _ rfl; (with_reducible repeat (first | refine blk_drewN ?_ _ | refine blk_drew ?_ | refine blk_alloc ?_ _)); refine blk_put (cs := #[.bool t138, .int .u64 t139, .int .i64 0, .bool false, .bool false]) ?_ 2 _ rfl; (with_reducible repeat (first | refine blk_drewN ?_ _ | refine blk_drew ?_ | refine blk_alloc ?_ _)); refine blk_put (cs := #[.bool t138, .int .u64 0, .int .i64 0, .bool false, .bool false]) ?_ 1 _ rfl; (with_reducible repeat (first | refine blk_drewN ?_ _ | refine blk_drew ?_ | refine blk_alloc ?_ _)); refine blk_put (cs := #[.bool false, .int .u64 0, .int .i64 0, .bool false, .bool false]) ?_ 0 _ rfl; (with_reducible repeat (first | refine blk_drewN ?_ _ | refine blk_drew ?_ | refine blk_alloc ?_ _)); exact BK143.out) hb); have n2_ := Aside0.mk (below_step (by repeat (first | (with_reducible first | exact HB.out | apply below_alloc | apply pw_below_drewN | apply below_drew1 | refine below_set ?_ GE137.out | refine below_set ?_ GE143.out) | exact HB.out)) hb); clear BK137; clear BK143; clear HB; have BK137 := n0_; have BK143 := n1_; have HB := n2_; clear n0_ n1_ n2_; (try clear hb); (try clear hb2); (try clear hk); (try clear hi); have hcz37_0 : w36.cell? ⟨gb137, 0, none⟩ = some (.bool t132) := (blk_cell BK137.out 0).trans rfl; have hcz37_1 : w36.cell? ⟨gb137, 1, none⟩ = some (.int .u64 t133) := (blk_cell BK137.out 1).trans rfl; have hcz37_2 : w36.cell? ⟨gb137, 2, none⟩ = some (.int .i64 t134) := (blk_cell BK137.out 2).trans rfl; have hcz37_3 : w36.cell? ⟨gb137, 3, none⟩ = some (.bool false) := (blk_cell BK137.out 3).trans rfl; have hcz37_4 : w36.cell? ⟨gb137, 4, none⟩ = some (.bool t136) := (blk_cell BK137.out 4).trans rfl; have hfz37_0 := blk_frozen BK137.out 0; have hfz37_1 := blk_frozen BK137.out 1; have hfz37_2 := blk_frozen BK137.out 2; have hfz37_3 := blk_frozen BK137.out 3; have hfz37_4 := blk_frozen BK137.out 4))
        go_meet
        case rel => exact ⟨_, (false), (by first | rfl | (simp; done) | (simp [*]; done)), H', ⟨by first | omega | exact Nat.le_refl _⟩, ⟨by (with_reducible repeat (first | refine blk_drewN ?_ _ | refine blk_drew ?_ | refine blk_alloc ?_ _)); exact BK137.out⟩, ⟨by (with_reducible repeat (first | refine blk_drewN ?_ _ | refine blk_drew ?_ | refine blk_alloc ?_ _)); exact BK143.out⟩, ⟨by repeat (first | (with_reducible first | exact HB.out | apply below_alloc | apply pw_below_drewN | apply below_drew1 | refine below_set ?_ GE137.out | refine below_set ?_ GE143.out) | exact HB.out)⟩⟩
  case rest =>
    clear HC5
    try clear c1
    try clear c2
    try clear p2
    try clear c3
    try clear c7
    try clear c11
    try clear c12
    try clear c14
    try clear c15
    try clear c19
    try clear c20
    try clear c21
    try clear c27
    try clear c33
    try clear hcz12_0
    try clear hcz12_1
    try clear hcz12_2
    try clear hcz12_3
    try clear hcz12_4
    try clear hcz16_0
    try clear hcz16_1
    try clear hcz16_2
    try clear hcz16_3
    try clear hcz16_4
    try clear hcz17_0
    try clear hcz17_1
    try clear hcz17_2
    try clear hcz17_3
    try clear hcz17_4
    try clear hcz22_0
    try clear hcz22_1
    try clear hcz22_2
    try clear hcz22_3
    try clear hcz22_4
    try clear hcz23_0
    try clear hcz23_1
    try clear hcz23_2
    try clear hcz23_3
    try clear hcz23_4
    try clear hcz25_0
    try clear hcz25_1
    try clear hcz25_2
    try clear hcz25_3
    try clear hcz25_4
    try clear hcz26_0
    try clear hcz26_1
    try clear hcz26_2
    try clear hcz26_3
    try clear hcz26_4
    try clear hcz28_0
    try clear hcz28_1
    try clear hcz28_2
    try clear hcz28_3
    try clear hcz28_4
    try clear hcz29_0
    try clear hcz29_1
    try clear hcz29_2
    try clear hcz29_3
    try clear hcz29_4
    try clear hcz31_0
    try clear hcz31_1
    try clear hcz31_2
    try clear hcz31_3
    try clear hcz31_4
    try clear hcz32_0
    try clear hcz32_1
    try clear hcz32_2
    try clear hcz32_3
    try clear hcz32_4
    try clear hcz34_0
    try clear hcz34_1
    try clear hcz34_2
    try clear hcz34_3
    try clear hcz34_4
    try clear hcz35_0
    try clear hcz35_1
    try clear hcz35_2
    try clear hcz35_3
    try clear hcz35_4
    try clear hcz37_0
    try clear hcz37_1
    try clear hcz37_2
    try clear hcz37_3
    try clear hcz37_4
    try clear hcz8_0
    try clear hcz8_1
    try clear hcz8_2
    try clear hcz8_3
    try clear hcz8_4
    try clear hfz12_0
    try clear hfz12_1
    try clear hfz12_2
    try clear hfz12_3
    try clear hfz12_4
    try clear hfz16_0
    try clear hfz16_1
    try clear hfz16_2
    try clear hfz16_3
    try clear hfz16_4
    try clear hfz17_0
    try clear hfz17_1
    try clear hfz17_2
    try clear hfz17_3
    try clear hfz17_4
    try clear hfz22_0
    try clear hfz22_1
    try clear hfz22_2
    try clear hfz22_3
    try clear hfz22_4
    try clear hfz23_0
    try clear hfz23_1
    try clear hfz23_2
    try clear hfz23_3
    try clear hfz23_4
    try clear hfz25_0
    try clear hfz25_1
    try clear hfz25_2
    try clear hfz25_3
    try clear hfz25_4
    try clear hfz26_0
    try clear hfz26_1
    try clear hfz26_2
    try clear hfz26_3
    try clear hfz26_4
    try clear hfz28_0
    try clear hfz28_1
    try clear hfz28_2
    try clear hfz28_3
    try clear hfz28_4
    try clear hfz29_0
    try clear hfz29_1
    try clear hfz29_2
    try clear hfz29_3
    try clear hfz29_4
    try clear hfz31_0
    try clear hfz31_1
    try clear hfz31_2
    try clear hfz31_3
    try clear hfz31_4
    try clear hfz32_0
    try clear hfz32_1
    try clear hfz32_2
    try clear hfz32_3
    try clear hfz32_4
    try clear hfz34_0
    try clear hfz34_1
    try clear hfz34_2
    try clear hfz34_3
    try clear hfz34_4
    try clear hfz35_0
    try clear hfz35_1
    try clear hfz35_2
    try clear hfz35_3
    try clear hfz35_4
    try clear hfz37_0
    try clear hfz37_1
    try clear hfz37_2
    try clear hfz37_3
    try clear hfz37_4
    try clear hfz8_0
    try clear hfz8_1
    try clear hfz8_2
    try clear hfz8_3
    try clear hfz8_4
    obtain ⟨kq, x11_4, rfl, HA, HJ4, BK137, BK143, HB⟩ := hcut
    cases kq with
    | zero => exact absurd HA.out (by simp [latheref02_Add.j0])
    | succ kj4 =>
      have H := HA.out
      clear HA
      simp only [latheref02_Add.j0] at H
      by_cases c38 : x11_4 = true
      · subst c38
        have H1 : (some 2143289344) = some r := by rw [if_pos rfl] at H; exact H
        clear H
        have H := H1
        clear H1
        obtain rfl := Option.some.inj H
        go_wp2
        go_ret
        exact ⟨by first | rfl | (simp [errW_none, errW_some] <;> rfl) | (simp [*, errW_none, errW_some] <;> rfl), by repeat (first | (with_reducible first | exact HB.out | apply below_alloc | apply pw_below_drewN | apply below_drew1 | refine below_set ?_ GE137.out | refine below_set ?_ GE143.out) | exact HB.out)⟩
      · replace c38 := Bool.eq_false_iff.mpr c38
        subst c38
        have H1 : (if t135 = true then ((latheref02_infinite.f t132).bind fun t145 => (some t145)) else (if t141 = true then ((latheref02_infinite.f t138).bind fun t146 => (some t146)) else (if t133 = 0 then (latheref02_Add.j1 kj4 (t139 == 0) t132 t133 t134 t135 t136 t138 t139 t140 t141 t142) else (latheref02_Add.j1 kj4 false t132 t133 t134 t135 t136 t138 t139 t140 t141 t142)))) = some r := by rw [if_neg (show ¬ (false = true) by decide)] at H; exact H
        clear H
        have H := H1
        clear H1
        by_cases c39 : t135 = true
        · subst c39
          have H1 : ((latheref02_infinite.f t132).bind fun t145 => (some t145)) = some r := by rw [if_pos rfl] at H; exact H
          clear H
          have H := H1
          clear H1
          replace H := Option.bind_eq_some_iff.mp H
          obtain ⟨t145, A400, H⟩ := H
          replace H : (some t145) = some r := H
          have A40 := Aside0.mk A400
          clear A400
          obtain rfl := Option.some.inj H
          have hnb41 := NB137_143.out
          have hnc41 := NB143_137.out
          have hcz42_0 : wc.cell? ⟨gb137, 0, none⟩ = some (.bool t132) := (blk_cell BK137.out 0).trans rfl
          have hcz42_1 : wc.cell? ⟨gb137, 1, none⟩ = some (.int .u64 t133) := (blk_cell BK137.out 1).trans rfl
          have hcz42_2 : wc.cell? ⟨gb137, 2, none⟩ = some (.int .i64 t134) := (blk_cell BK137.out 2).trans rfl
          have hcz42_3 : wc.cell? ⟨gb137, 3, none⟩ = some (.bool true) := (blk_cell BK137.out 3).trans rfl
          have hcz42_4 : wc.cell? ⟨gb137, 4, none⟩ = some (.bool t136) := (blk_cell BK137.out 4).trans rfl
          have hfz42_0 := blk_frozen BK137.out 0
          have hfz42_1 := blk_frozen BK137.out 1
          have hfz42_2 := blk_frozen BK137.out 2
          have hfz42_3 := blk_frozen BK137.out 3
          have hfz42_4 := blk_frozen BK137.out 4
          go_wp2_with (first | ((with_reducible refine gate_callee (f := 121) rfl ?_); refine goesL_ (some 35) rfl rfl Try.func121 (by kernel_rfl) rfl #[.bool t132] rfl (by (try simp only [List.map_toArray, List.map_cons, List.map_nil]); first | done | rfl | (simp only [List.length_drop, List.length_take]; rfl)) ?_; (with_reducible refine (latheref02_infinite.calls t132 t145 _ A40.out).mono ?_); clear A40; rintro e w' ⟨rfl, ⟨nd, rfl⟩⟩; refine ⟨_, rfl, ?_⟩))
          go_ret
          exact ⟨by first | rfl | (simp [errW_none, errW_some] <;> rfl) | (simp [*, errW_none, errW_some] <;> rfl), by repeat (first | (with_reducible first | exact HB.out | apply below_alloc | apply pw_below_drewN | apply below_drew1 | refine below_set ?_ GE137.out | refine below_set ?_ GE143.out) | exact HB.out)⟩
        · replace c39 := Bool.eq_false_iff.mpr c39
          subst c39
          have H1 : (if t141 = true then ((latheref02_infinite.f t138).bind fun t146 => (some t146)) else (if t133 = 0 then (latheref02_Add.j1 kj4 (t139 == 0) t132 t133 t134 false t136 t138 t139 t140 t141 t142) else (latheref02_Add.j1 kj4 false t132 t133 t134 false t136 t138 t139 t140 t141 t142))) = some r := by rw [if_neg (show ¬ (false = true) by decide)] at H; exact H
          clear H
          have H := H1
          clear H1
          by_cases c43 : t141 = true
          · subst c43
            have H1 : ((latheref02_infinite.f t138).bind fun t146 => (some t146)) = some r := by rw [if_pos rfl] at H; exact H
            clear H
            have H := H1
            clear H1
            replace H := Option.bind_eq_some_iff.mp H
            obtain ⟨t146, A440, H⟩ := H
            replace H : (some t146) = some r := H
            have A44 := Aside0.mk A440
            clear A440
            obtain rfl := Option.some.inj H
            have hnb45 := NB137_143.out
            have hnc45 := NB143_137.out
            have hcz46_0 : wc.cell? ⟨gb137, 0, none⟩ = some (.bool t132) := (blk_cell BK137.out 0).trans rfl
            have hcz46_1 : wc.cell? ⟨gb137, 1, none⟩ = some (.int .u64 t133) := (blk_cell BK137.out 1).trans rfl
            have hcz46_2 : wc.cell? ⟨gb137, 2, none⟩ = some (.int .i64 t134) := (blk_cell BK137.out 2).trans rfl
            have hcz46_3 : wc.cell? ⟨gb137, 3, none⟩ = some (.bool false) := (blk_cell BK137.out 3).trans rfl
            have hcz46_4 : wc.cell? ⟨gb137, 4, none⟩ = some (.bool t136) := (blk_cell BK137.out 4).trans rfl
            have hfz46_0 := blk_frozen BK137.out 0
            have hfz46_1 := blk_frozen BK137.out 1
            have hfz46_2 := blk_frozen BK137.out 2
            have hfz46_3 := blk_frozen BK137.out 3
            have hfz46_4 := blk_frozen BK137.out 4
            have hcz47_0 : wc.cell? ⟨gb143, 0, none⟩ = some (.bool t138) := (blk_cell BK143.out 0).trans rfl
            have hcz47_1 : wc.cell? ⟨gb143, 1, none⟩ = some (.int .u64 t139) := (blk_cell BK143.out 1).trans rfl
            have hcz47_2 : wc.cell? ⟨gb143, 2, none⟩ = some (.int .i64 t140) := (blk_cell BK143.out 2).trans rfl
            have hcz47_3 : wc.cell? ⟨gb143, 3, none⟩ = some (.bool true) := (blk_cell BK143.out 3).trans rfl
            have hcz47_4 : wc.cell? ⟨gb143, 4, none⟩ = some (.bool t142) := (blk_cell BK143.out 4).trans rfl
            have hfz47_0 := blk_frozen BK143.out 0
            have hfz47_1 := blk_frozen BK143.out 1
            have hfz47_2 := blk_frozen BK143.out 2
            have hfz47_3 := blk_frozen BK143.out 3
            have hfz47_4 := blk_frozen BK143.out 4
            go_wp2_with (first | ((with_reducible refine gate_callee (f := 121) rfl ?_); refine goesL_ (some 41) rfl rfl Try.func121 (by kernel_rfl) rfl #[.bool t138] rfl (by (try simp only [List.map_toArray, List.map_cons, List.map_nil]); first | done | rfl | (simp only [List.length_drop, List.length_take]; rfl)) ?_; (with_reducible refine (latheref02_infinite.calls t138 t146 _ A44.out).mono ?_); clear A44; rintro e w' ⟨rfl, ⟨nd, rfl⟩⟩; refine ⟨_, rfl, ?_⟩))
            go_ret
            exact ⟨by first | rfl | (simp [errW_none, errW_some] <;> rfl) | (simp [*, errW_none, errW_some] <;> rfl), by repeat (first | (with_reducible first | exact HB.out | apply below_alloc | apply pw_below_drewN | apply below_drew1 | refine below_set ?_ GE137.out | refine below_set ?_ GE143.out) | exact HB.out)⟩
          · replace c43 := Bool.eq_false_iff.mpr c43
            subst c43
            have H1 : (if t133 = 0 then (latheref02_Add.j1 kj4 (t139 == 0) t132 t133 t134 false t136 t138 t139 t140 false t142) else (latheref02_Add.j1 kj4 false t132 t133 t134 false t136 t138 t139 t140 false t142)) = some r := by rw [if_neg (show ¬ (false = true) by decide)] at H; exact H
            clear H
            have H := H1
            clear H1
            have HC48 := Aside0.mk H
            clear H
            have hnb49 := NB137_143.out
            have hnc49 := NB143_137.out
            have hcz50_0 : wc.cell? ⟨gb137, 0, none⟩ = some (.bool t132) := (blk_cell BK137.out 0).trans rfl
            have hcz50_1 : wc.cell? ⟨gb137, 1, none⟩ = some (.int .u64 t133) := (blk_cell BK137.out 1).trans rfl
            have hcz50_2 : wc.cell? ⟨gb137, 2, none⟩ = some (.int .i64 t134) := (blk_cell BK137.out 2).trans rfl
            have hcz50_3 : wc.cell? ⟨gb137, 3, none⟩ = some (.bool false) := (blk_cell BK137.out 3).trans rfl
            have hcz50_4 : wc.cell? ⟨gb137, 4, none⟩ = some (.bool t136) := (blk_cell BK137.out 4).trans rfl
            have hfz50_0 := blk_frozen BK137.out 0
            have hfz50_1 := blk_frozen BK137.out 1
            have hfz50_2 := blk_frozen BK137.out 2
            have hfz50_3 := blk_frozen BK137.out 3
            have hfz50_4 := blk_frozen BK137.out 4
            have hcz51_0 : wc.cell? ⟨gb143, 0, none⟩ = some (.bool t138) := (blk_cell BK143.out 0).trans rfl
            have hcz51_1 : wc.cell? ⟨gb143, 1, none⟩ = some (.int .u64 t139) := (blk_cell BK143.out 1).trans rfl
            have hcz51_2 : wc.cell? ⟨gb143, 2, none⟩ = some (.int .i64 t140) := (blk_cell BK143.out 2).trans rfl
            have hcz51_3 : wc.cell? ⟨gb143, 3, none⟩ = some (.bool false) := (blk_cell BK143.out 3).trans rfl
            have hcz51_4 : wc.cell? ⟨gb143, 4, none⟩ = some (.bool t142) := (blk_cell BK143.out 4).trans rfl
            have hfz51_0 := blk_frozen BK143.out 0
            have hfz51_1 := blk_frozen BK143.out 1
            have hfz51_2 := blk_frozen BK143.out 2
            have hfz51_3 := blk_frozen BK143.out 3
            have hfz51_4 := blk_frozen BK143.out 4
            go_upto_region 9 with (fail)
            go_cut [42] (fun v42 wc => ∃ (kq : Nat) (x42_47 : Bool), v42 = .bool x42_47 ∧ Aside0 (latheref02_Add.j1 kq x42_47 t132 t133 t134 false t136 t138 t139 t140 false t142 = some r) ∧ Aside0 (kq ≤ kj4) ∧ Aside0 (wc.heap[gb137]? = some (.cells #[.bool t132, .int .u64 t133, .int .i64 t134, .bool false, .bool t136] 129 (0, 0))) ∧ Aside0 (wc.heap[gb143]? = some (.cells #[.bool t138, .int .u64 t139, .int .i64 t140, .bool false, .bool t142] 129 (0, 0))) ∧ Aside0 (Below w.heap.size w wc))
            case first =>
              have H := HC48.out
              clear HC48
              by_cases c52 : t133 = 0
              · rw [if_pos c52] at H
                have c52b0 : (t133 == 0) = true := beq_iff_eq.mpr c52
                have c52b1 : (t133 != 0) = false := bne_eq_false_iff_eq.mpr c52
                clear c52
                (first | rw [c52b0] | (simp only [i64_w, i32_w]; rw [c52b0]) | skip)
                have H' := Aside0.mk H
                clear H
                have hnb53 := NB137_143.out
                have hnc53 := NB143_137.out
                have hcz54_0 : wc.cell? ⟨gb137, 0, none⟩ = some (.bool t132) := (blk_cell BK137.out 0).trans rfl
                have hcz54_1 : wc.cell? ⟨gb137, 1, none⟩ = some (.int .u64 t133) := (blk_cell BK137.out 1).trans rfl
                have hcz54_2 : wc.cell? ⟨gb137, 2, none⟩ = some (.int .i64 t134) := (blk_cell BK137.out 2).trans rfl
                have hcz54_3 : wc.cell? ⟨gb137, 3, none⟩ = some (.bool false) := (blk_cell BK137.out 3).trans rfl
                have hcz54_4 : wc.cell? ⟨gb137, 4, none⟩ = some (.bool t136) := (blk_cell BK137.out 4).trans rfl
                have hfz54_0 := blk_frozen BK137.out 0
                have hfz54_1 := blk_frozen BK137.out 1
                have hfz54_2 := blk_frozen BK137.out 2
                have hfz54_3 := blk_frozen BK137.out 3
                have hfz54_4 := blk_frozen BK137.out 4
                have hcz55_0 : wc.cell? ⟨gb143, 0, none⟩ = some (.bool t138) := (blk_cell BK143.out 0).trans rfl
                have hcz55_1 : wc.cell? ⟨gb143, 1, none⟩ = some (.int .u64 t139) := (blk_cell BK143.out 1).trans rfl
                have hcz55_2 : wc.cell? ⟨gb143, 2, none⟩ = some (.int .i64 t140) := (blk_cell BK143.out 2).trans rfl
                have hcz55_3 : wc.cell? ⟨gb143, 3, none⟩ = some (.bool false) := (blk_cell BK143.out 3).trans rfl
                have hcz55_4 : wc.cell? ⟨gb143, 4, none⟩ = some (.bool t142) := (blk_cell BK143.out 4).trans rfl
                have hfz55_0 := blk_frozen BK143.out 0
                have hfz55_1 := blk_frozen BK143.out 1
                have hfz55_2 := blk_frozen BK143.out 2
                have hfz55_3 := blk_frozen BK143.out 3
                have hfz55_4 := blk_frozen BK143.out 4
                go_wp2
                go_meet
                case rel => exact ⟨_, ((t139 == 0)), (by first | rfl | (simp; done) | (simp [*]; done)), H', ⟨by have := HJ4.out; first | omega | exact Nat.le_refl _⟩, ⟨by (with_reducible repeat (first | refine blk_drewN ?_ _ | refine blk_drew ?_ | refine blk_alloc ?_ _)); exact BK137.out⟩, ⟨by (with_reducible repeat (first | refine blk_drewN ?_ _ | refine blk_drew ?_ | refine blk_alloc ?_ _)); exact BK143.out⟩, ⟨by repeat (first | (with_reducible first | exact HB.out | apply below_alloc | apply pw_below_drewN | apply below_drew1 | refine below_set ?_ GE137.out | refine below_set ?_ GE143.out) | exact HB.out)⟩⟩
              · rw [if_neg c52] at H
                have c52b0 : (t133 == 0) = false := beq_eq_false_iff_ne.mpr c52
                have c52b1 : (t133 != 0) = true := bne_iff_ne.mpr c52
                (first | rw [c52b0] | (simp only [i64_w, i32_w]; rw [c52b0]) | skip)
                have H' := Aside0.mk H
                clear H
                have hnb56 := NB137_143.out
                have hnc56 := NB143_137.out
                have hcz57_0 : wc.cell? ⟨gb137, 0, none⟩ = some (.bool t132) := (blk_cell BK137.out 0).trans rfl
                have hcz57_1 : wc.cell? ⟨gb137, 1, none⟩ = some (.int .u64 t133) := (blk_cell BK137.out 1).trans rfl
                have hcz57_2 : wc.cell? ⟨gb137, 2, none⟩ = some (.int .i64 t134) := (blk_cell BK137.out 2).trans rfl
                have hcz57_3 : wc.cell? ⟨gb137, 3, none⟩ = some (.bool false) := (blk_cell BK137.out 3).trans rfl
                have hcz57_4 : wc.cell? ⟨gb137, 4, none⟩ = some (.bool t136) := (blk_cell BK137.out 4).trans rfl
                have hfz57_0 := blk_frozen BK137.out 0
                have hfz57_1 := blk_frozen BK137.out 1
                have hfz57_2 := blk_frozen BK137.out 2
                have hfz57_3 := blk_frozen BK137.out 3
                have hfz57_4 := blk_frozen BK137.out 4
                go_wp2
                go_meet
                case rel => exact ⟨_, (false), (by first | rfl | (simp; done) | (simp [*]; done)), H', ⟨by have := HJ4.out; first | omega | exact Nat.le_refl _⟩, ⟨by (with_reducible repeat (first | refine blk_drewN ?_ _ | refine blk_drew ?_ | refine blk_alloc ?_ _)); exact BK137.out⟩, ⟨by (with_reducible repeat (first | refine blk_drewN ?_ _ | refine blk_drew ?_ | refine blk_alloc ?_ _)); exact BK143.out⟩, ⟨by repeat (first | (with_reducible first | exact HB.out | apply below_alloc | apply pw_below_drewN | apply below_drew1 | refine below_set ?_ GE137.out | refine below_set ?_ GE143.out) | exact HB.out)⟩⟩
            case rest =>
              clear HC48
              try clear c1
              try clear c2
              try clear p2
              try clear c3
              try clear c4
              try clear c5
              try clear c7
              try clear c11
              try clear c12
              try clear c14
              try clear c15
              try clear c19
              try clear c20
              try clear c21
              try clear c27
              try clear c33
              try clear c38
              try clear c39
              try clear c41
              try clear c43
              try clear c45
              try clear c49
              try clear c52
              try clear c52b0
              try clear c52b1
              try clear c53
              try clear c56
              try clear hcz12_0
              try clear hcz12_1
              try clear hcz12_2
              try clear hcz12_3
              try clear hcz12_4
              try clear hcz16_0
              try clear hcz16_1
              try clear hcz16_2
              try clear hcz16_3
              try clear hcz16_4
              try clear hcz17_0
              try clear hcz17_1
              try clear hcz17_2
              try clear hcz17_3
              try clear hcz17_4
              try clear hcz22_0
              try clear hcz22_1
              try clear hcz22_2
              try clear hcz22_3
              try clear hcz22_4
              try clear hcz23_0
              try clear hcz23_1
              try clear hcz23_2
              try clear hcz23_3
              try clear hcz23_4
              try clear hcz25_0
              try clear hcz25_1
              try clear hcz25_2
              try clear hcz25_3
              try clear hcz25_4
              try clear hcz26_0
              try clear hcz26_1
              try clear hcz26_2
              try clear hcz26_3
              try clear hcz26_4
              try clear hcz28_0
              try clear hcz28_1
              try clear hcz28_2
              try clear hcz28_3
              try clear hcz28_4
              try clear hcz29_0
              try clear hcz29_1
              try clear hcz29_2
              try clear hcz29_3
              try clear hcz29_4
              try clear hcz31_0
              try clear hcz31_1
              try clear hcz31_2
              try clear hcz31_3
              try clear hcz31_4
              try clear hcz32_0
              try clear hcz32_1
              try clear hcz32_2
              try clear hcz32_3
              try clear hcz32_4
              try clear hcz34_0
              try clear hcz34_1
              try clear hcz34_2
              try clear hcz34_3
              try clear hcz34_4
              try clear hcz35_0
              try clear hcz35_1
              try clear hcz35_2
              try clear hcz35_3
              try clear hcz35_4
              try clear hcz37_0
              try clear hcz37_1
              try clear hcz37_2
              try clear hcz37_3
              try clear hcz37_4
              try clear hcz42_0
              try clear hcz42_1
              try clear hcz42_2
              try clear hcz42_3
              try clear hcz42_4
              try clear hcz46_0
              try clear hcz46_1
              try clear hcz46_2
              try clear hcz46_3
              try clear hcz46_4
              try clear hcz47_0
              try clear hcz47_1
              try clear hcz47_2
              try clear hcz47_3
              try clear hcz47_4
              try clear hcz50_0
              try clear hcz50_1
              try clear hcz50_2
              try clear hcz50_3
              try clear hcz50_4
              try clear hcz51_0
              try clear hcz51_1
              try clear hcz51_2
              try clear hcz51_3
              try clear hcz51_4
              try clear hcz54_0
              try clear hcz54_1
              try clear hcz54_2
              try clear hcz54_3
              try clear hcz54_4
              try clear hcz55_0
              try clear hcz55_1
              try clear hcz55_2
              try clear hcz55_3
              try clear hcz55_4
              try clear hcz57_0
              try clear hcz57_1
              try clear hcz57_2
              try clear hcz57_3
              try clear hcz57_4
              try clear hcz8_0
              try clear hcz8_1
              try clear hcz8_2
              try clear hcz8_3
              try clear hcz8_4
              try clear hfz12_0
              try clear hfz12_1
              try clear hfz12_2
              try clear hfz12_3
              try clear hfz12_4
              try clear hfz16_0
              try clear hfz16_1
              try clear hfz16_2
              try clear hfz16_3
              try clear hfz16_4
              try clear hfz17_0
              try clear hfz17_1
              try clear hfz17_2
              try clear hfz17_3
              try clear hfz17_4
              try clear hfz22_0
              try clear hfz22_1
              try clear hfz22_2
              try clear hfz22_3
              try clear hfz22_4
              try clear hfz23_0
              try clear hfz23_1
              try clear hfz23_2
              try clear hfz23_3
              try clear hfz23_4
              try clear hfz25_0
              try clear hfz25_1
              try clear hfz25_2
              try clear hfz25_3
              try clear hfz25_4
              try clear hfz26_0
              try clear hfz26_1
              try clear hfz26_2
              try clear hfz26_3
              try clear hfz26_4
              try clear hfz28_0
              try clear hfz28_1
              try clear hfz28_2
              try clear hfz28_3
              try clear hfz28_4
              try clear hfz29_0
              try clear hfz29_1
              try clear hfz29_2
              try clear hfz29_3
              try clear hfz29_4
              try clear hfz31_0
              try clear hfz31_1
              try clear hfz31_2
              try clear hfz31_3
              try clear hfz31_4
              try clear hfz32_0
              try clear hfz32_1
              try clear hfz32_2
              try clear hfz32_3
              try clear hfz32_4
              try clear hfz34_0
              try clear hfz34_1
              try clear hfz34_2
              try clear hfz34_3
              try clear hfz34_4
              try clear hfz35_0
              try clear hfz35_1
              try clear hfz35_2
              try clear hfz35_3
              try clear hfz35_4
              try clear hfz37_0
              try clear hfz37_1
              try clear hfz37_2
              try clear hfz37_3
              try clear hfz37_4
              try clear hfz42_0
              try clear hfz42_1
              try clear hfz42_2
              try clear hfz42_3
              try clear hfz42_4
              try clear hfz46_0
              try clear hfz46_1
              try clear hfz46_2
              try clear hfz46_3
              try clear hfz46_4
              try clear hfz47_0
              try clear hfz47_1
              try clear hfz47_2
              try clear hfz47_3
              try clear hfz47_4
              try clear hfz50_0
              try clear hfz50_1
              try clear hfz50_2
              try clear hfz50_3
              try clear hfz50_4
              try clear hfz51_0
              try clear hfz51_1
              try clear hfz51_2
              try clear hfz51_3
              try clear hfz51_4
              try clear hfz54_0
              try clear hfz54_1
              try clear hfz54_2
              try clear hfz54_3
              try clear hfz54_4
              try clear hfz55_0
              try clear hfz55_1
              try clear hfz55_2
              try clear hfz55_3
              try clear hfz55_4
              try clear hfz57_0
              try clear hfz57_1
              try clear hfz57_2
              try clear hfz57_3
              try clear hfz57_4
              try clear hfz8_0
              try clear hfz8_1
              try clear hfz8_2
              try clear hfz8_3
              try clear hfz8_4
              try clear p2
              obtain ⟨kq, x42_47, rfl, HA, HJ47, BK137, BK143, HB⟩ := hcut
              cases kq with
              | zero => exact absurd HA.out (by simp [latheref02_Add.j1])
              | succ kj47 =>
                have H := HA.out
                clear HA
                simp only [latheref02_Add.j1] at H
                by_cases c58 : x42_47 = true
                · subst c58
                  have H1 : (if t132 = true then ((latheref02_zero.f t138).bind fun t147 => (some t147)) else ((latheref02_zero.f false).bind fun t148 => (some t148))) = some r := by rw [if_pos rfl] at H; exact H
                  clear H
                  have H := H1
                  clear H1
                  by_cases c59 : t132 = true
                  · subst c59
                    have H1 : ((latheref02_zero.f t138).bind fun t147 => (some t147)) = some r := by rw [if_pos rfl] at H; exact H
                    clear H
                    have H := H1
                    clear H1
                    replace H := Option.bind_eq_some_iff.mp H
                    obtain ⟨t147, A600, H⟩ := H
                    replace H : (some t147) = some r := H
                    have A60 := Aside0.mk A600
                    clear A600
                    obtain rfl := Option.some.inj H
                    have hnb61 := NB137_143.out
                    have hnc61 := NB143_137.out
                    have hcz62_0 : wc.cell? ⟨gb137, 0, none⟩ = some (.bool true) := (blk_cell BK137.out 0).trans rfl
                    have hcz62_1 : wc.cell? ⟨gb137, 1, none⟩ = some (.int .u64 t133) := (blk_cell BK137.out 1).trans rfl
                    have hcz62_2 : wc.cell? ⟨gb137, 2, none⟩ = some (.int .i64 t134) := (blk_cell BK137.out 2).trans rfl
                    have hcz62_3 : wc.cell? ⟨gb137, 3, none⟩ = some (.bool false) := (blk_cell BK137.out 3).trans rfl
                    have hcz62_4 : wc.cell? ⟨gb137, 4, none⟩ = some (.bool t136) := (blk_cell BK137.out 4).trans rfl
                    have hfz62_0 := blk_frozen BK137.out 0
                    have hfz62_1 := blk_frozen BK137.out 1
                    have hfz62_2 := blk_frozen BK137.out 2
                    have hfz62_3 := blk_frozen BK137.out 3
                    have hfz62_4 := blk_frozen BK137.out 4
                    have hcz63_0 : wc.cell? ⟨gb143, 0, none⟩ = some (.bool t138) := (blk_cell BK143.out 0).trans rfl
                    have hcz63_1 : wc.cell? ⟨gb143, 1, none⟩ = some (.int .u64 t139) := (blk_cell BK143.out 1).trans rfl
                    have hcz63_2 : wc.cell? ⟨gb143, 2, none⟩ = some (.int .i64 t140) := (blk_cell BK143.out 2).trans rfl
                    have hcz63_3 : wc.cell? ⟨gb143, 3, none⟩ = some (.bool false) := (blk_cell BK143.out 3).trans rfl
                    have hcz63_4 : wc.cell? ⟨gb143, 4, none⟩ = some (.bool t142) := (blk_cell BK143.out 4).trans rfl
                    have hfz63_0 := blk_frozen BK143.out 0
                    have hfz63_1 := blk_frozen BK143.out 1
                    have hfz63_2 := blk_frozen BK143.out 2
                    have hfz63_3 := blk_frozen BK143.out 3
                    have hfz63_4 := blk_frozen BK143.out 4
                    go_wp2_with (first | ((with_reducible refine gate_callee (f := 122) rfl ?_); refine goesL_ (some 57) rfl rfl Try.func122 (by kernel_rfl) rfl #[.bool t138] rfl (by (try simp only [List.map_toArray, List.map_cons, List.map_nil]); first | done | rfl | (simp only [List.length_drop, List.length_take]; rfl)) ?_; (with_reducible refine (latheref02_zero.calls t138 t147 _ A60.out).mono ?_); clear A60; rintro e w' ⟨rfl, ⟨nd, rfl⟩⟩; refine ⟨_, rfl, ?_⟩))
                    go_ret
                    exact ⟨by first | rfl | (simp [errW_none, errW_some] <;> rfl) | (simp [*, errW_none, errW_some] <;> rfl), by repeat (first | (with_reducible first | exact HB.out | apply below_alloc | apply pw_below_drewN | apply below_drew1 | refine below_set ?_ GE137.out | refine below_set ?_ GE143.out) | exact HB.out)⟩
                  · replace c59 := Bool.eq_false_iff.mpr c59
                    subst c59
                    have H1 : ((latheref02_zero.f false).bind fun t148 => (some t148)) = some r := by rw [if_neg (show ¬ (false = true) by decide)] at H; exact H
                    clear H
                    have H := H1
                    clear H1
                    replace H := Option.bind_eq_some_iff.mp H
                    obtain ⟨t148, A640, H⟩ := H
                    replace H : (some t148) = some r := H
                    have A64 := Aside0.mk A640
                    clear A640
                    obtain rfl := Option.some.inj H
                    have hnb65 := NB137_143.out
                    have hnc65 := NB143_137.out
                    have hcz66_0 : wc.cell? ⟨gb137, 0, none⟩ = some (.bool false) := (blk_cell BK137.out 0).trans rfl
                    have hcz66_1 : wc.cell? ⟨gb137, 1, none⟩ = some (.int .u64 t133) := (blk_cell BK137.out 1).trans rfl
                    have hcz66_2 : wc.cell? ⟨gb137, 2, none⟩ = some (.int .i64 t134) := (blk_cell BK137.out 2).trans rfl
                    have hcz66_3 : wc.cell? ⟨gb137, 3, none⟩ = some (.bool false) := (blk_cell BK137.out 3).trans rfl
                    have hcz66_4 : wc.cell? ⟨gb137, 4, none⟩ = some (.bool t136) := (blk_cell BK137.out 4).trans rfl
                    have hfz66_0 := blk_frozen BK137.out 0
                    have hfz66_1 := blk_frozen BK137.out 1
                    have hfz66_2 := blk_frozen BK137.out 2
                    have hfz66_3 := blk_frozen BK137.out 3
                    have hfz66_4 := blk_frozen BK137.out 4
                    go_wp2_with (first | ((with_reducible refine gate_callee (f := 122) rfl ?_); refine goesL_ (some 57) rfl rfl Try.func122 (by kernel_rfl) rfl #[.bool false] rfl (by (try simp only [List.map_toArray, List.map_cons, List.map_nil]); first | done | rfl | (simp only [List.length_drop, List.length_take]; rfl)) ?_; (with_reducible refine (latheref02_zero.calls false t148 _ A64.out).mono ?_); clear A64; rintro e w' ⟨rfl, ⟨nd, rfl⟩⟩; refine ⟨_, rfl, ?_⟩))
                    go_ret
                    exact ⟨by first | rfl | (simp [errW_none, errW_some] <;> rfl) | (simp [*, errW_none, errW_some] <;> rfl), by repeat (first | (with_reducible first | exact HB.out | apply below_alloc | apply pw_below_drewN | apply below_drew1 | refine below_set ?_ GE137.out | refine below_set ?_ GE143.out) | exact HB.out)⟩
                · replace c58 := Bool.eq_false_iff.mpr c58
                  subst c58
                  have H1 : (if t133 = 0 then ((latheref02_Round.f kj47 t138 t139 t140).bind fun t149 => (some t149)) else (if t139 = 0 then ((latheref02_Round.f kj47 t132 t133 t134).bind fun t150 => (some t150)) else (if t134 < t140 then ((latheref02_sum.f kj47 t138 t139 t140 false t142 t132 t133 t134 false t136).bind fun t151 => (some t151)) else ((latheref02_sum.f kj47 t132 t133 t134 false t136 t138 t139 t140 false t142).bind fun t152 => (some t152))))) = some r := by rw [if_neg (show ¬ (false = true) by decide)] at H; exact H
                  clear H
                  have H := H1
                  clear H1
                  by_cases c67 : t133 = 0
                  · rw [if_pos c67] at H
                    have c67b0 : (t133 == 0) = true := beq_iff_eq.mpr c67
                    have c67b1 : (t133 != 0) = false := bne_eq_false_iff_eq.mpr c67
                    clear c67
                    replace H := Option.bind_eq_some_iff.mp H
                    obtain ⟨t149, A680, H⟩ := H
                    replace H : (some t149) = some r := H
                    have A68 := Aside0.mk A680
                    clear A680
                    obtain rfl := Option.some.inj H
                    have hnb69 := NB137_143.out
                    have hnc69 := NB143_137.out
                    have hcz70_0 : wc.cell? ⟨gb137, 0, none⟩ = some (.bool t132) := (blk_cell BK137.out 0).trans rfl
                    have hcz70_1 : wc.cell? ⟨gb137, 1, none⟩ = some (.int .u64 t133) := (blk_cell BK137.out 1).trans rfl
                    have hcz70_2 : wc.cell? ⟨gb137, 2, none⟩ = some (.int .i64 t134) := (blk_cell BK137.out 2).trans rfl
                    have hcz70_3 : wc.cell? ⟨gb137, 3, none⟩ = some (.bool false) := (blk_cell BK137.out 3).trans rfl
                    have hcz70_4 : wc.cell? ⟨gb137, 4, none⟩ = some (.bool t136) := (blk_cell BK137.out 4).trans rfl
                    have hfz70_0 := blk_frozen BK137.out 0
                    have hfz70_1 := blk_frozen BK137.out 1
                    have hfz70_2 := blk_frozen BK137.out 2
                    have hfz70_3 := blk_frozen BK137.out 3
                    have hfz70_4 := blk_frozen BK137.out 4
                    have hcz71_0 : wc.cell? ⟨gb143, 0, none⟩ = some (.bool t138) := (blk_cell BK143.out 0).trans rfl
                    have hcz71_1 : wc.cell? ⟨gb143, 1, none⟩ = some (.int .u64 t139) := (blk_cell BK143.out 1).trans rfl
                    have hcz71_2 : wc.cell? ⟨gb143, 2, none⟩ = some (.int .i64 t140) := (blk_cell BK143.out 2).trans rfl
                    have hcz71_3 : wc.cell? ⟨gb143, 3, none⟩ = some (.bool false) := (blk_cell BK143.out 3).trans rfl
                    have hcz71_4 : wc.cell? ⟨gb143, 4, none⟩ = some (.bool t142) := (blk_cell BK143.out 4).trans rfl
                    have hfz71_0 := blk_frozen BK143.out 0
                    have hfz71_1 := blk_frozen BK143.out 1
                    have hfz71_2 := blk_frozen BK143.out 2
                    have hfz71_3 := blk_frozen BK143.out 3
                    have hfz71_4 := blk_frozen BK143.out 4
                    go_wp2_with (first | ((with_reducible refine gate_callee (f := 123) rfl ?_); refine goesL_ (some 68) rfl rfl Try.func123 (by kernel_rfl) rfl #[.bool t138, .int .u64 t139, .int .i64 t140] rfl (by (try simp only [List.map_toArray, List.map_cons, List.map_nil]); first | done | rfl | (simp only [List.length_drop, List.length_take]; rfl)) ?_; (with_reducible refine (latheref02_Round.calls kj47 t138 t139 t140 t149 _ A68.out).mono ?_); clear A68; rintro e w72 ⟨rfl, hb⟩; refine ⟨_, rfl, ?_⟩; have n0_ := Aside0.mk (blk_below (g := gb137) (o := .cells #[.bool t132, .int .u64 t133, .int .i64 t134, .bool false, .bool t136] 129 (0, 0)) (by (with_reducible repeat (first | refine blk_drewN ?_ _ | refine blk_drew ?_ | refine blk_alloc ?_ _)); exact BK137.out) hb); have n1_ := Aside0.mk (blk_below (g := gb143) (o := .cells #[.bool t138, .int .u64 t139, .int .i64 t140, .bool false, .bool t142] 129 (0, 0)) (by (with_reducible repeat (first | refine blk_drewN ?_ _ | refine blk_drew ?_ | refine blk_alloc ?_ _)); exact BK143.out) hb); have n2_ := Aside0.mk (below_step (by repeat (first | (with_reducible first | exact HB.out | apply below_alloc | apply pw_below_drewN | apply below_drew1 | refine below_set ?_ GE137.out | refine below_set ?_ GE143.out) | exact HB.out)) hb); clear BK137; clear BK143; clear HB; have BK137 := n0_; have BK143 := n1_; have HB := n2_; clear n0_ n1_ n2_; (try clear hb); (try clear hb2); (try clear hk); (try clear hi)))
                    go_ret
                    exact ⟨by first | rfl | (simp [errW_none, errW_some] <;> rfl) | (simp [*, errW_none, errW_some] <;> rfl), by repeat (first | (with_reducible first | exact HB.out | apply below_alloc | apply pw_below_drewN | apply below_drew1 | refine below_set ?_ GE137.out | refine below_set ?_ GE143.out) | exact HB.out)⟩
                  · rw [if_neg c67] at H
                    have c67b0 : (t133 == 0) = false := beq_eq_false_iff_ne.mpr c67
                    have c67b1 : (t133 != 0) = true := bne_iff_ne.mpr c67
                    by_cases c73 : t139 = 0
                    · rw [if_pos c73] at H
                      have c73b0 : (t139 == 0) = true := beq_iff_eq.mpr c73
                      have c73b1 : (t139 != 0) = false := bne_eq_false_iff_eq.mpr c73
                      clear c73
                      replace H := Option.bind_eq_some_iff.mp H
                      obtain ⟨t150, A740, H⟩ := H
                      replace H : (some t150) = some r := H
                      have A74 := Aside0.mk A740
                      clear A740
                      obtain rfl := Option.some.inj H
                      have hnb75 := NB137_143.out
                      have hnc75 := NB143_137.out
                      have hcz76_0 : wc.cell? ⟨gb137, 0, none⟩ = some (.bool t132) := (blk_cell BK137.out 0).trans rfl
                      have hcz76_1 : wc.cell? ⟨gb137, 1, none⟩ = some (.int .u64 t133) := (blk_cell BK137.out 1).trans rfl
                      have hcz76_2 : wc.cell? ⟨gb137, 2, none⟩ = some (.int .i64 t134) := (blk_cell BK137.out 2).trans rfl
                      have hcz76_3 : wc.cell? ⟨gb137, 3, none⟩ = some (.bool false) := (blk_cell BK137.out 3).trans rfl
                      have hcz76_4 : wc.cell? ⟨gb137, 4, none⟩ = some (.bool t136) := (blk_cell BK137.out 4).trans rfl
                      have hfz76_0 := blk_frozen BK137.out 0
                      have hfz76_1 := blk_frozen BK137.out 1
                      have hfz76_2 := blk_frozen BK137.out 2
                      have hfz76_3 := blk_frozen BK137.out 3
                      have hfz76_4 := blk_frozen BK137.out 4
                      have hcz77_0 : wc.cell? ⟨gb143, 0, none⟩ = some (.bool t138) := (blk_cell BK143.out 0).trans rfl
                      have hcz77_1 : wc.cell? ⟨gb143, 1, none⟩ = some (.int .u64 t139) := (blk_cell BK143.out 1).trans rfl
                      have hcz77_2 : wc.cell? ⟨gb143, 2, none⟩ = some (.int .i64 t140) := (blk_cell BK143.out 2).trans rfl
                      have hcz77_3 : wc.cell? ⟨gb143, 3, none⟩ = some (.bool false) := (blk_cell BK143.out 3).trans rfl
                      have hcz77_4 : wc.cell? ⟨gb143, 4, none⟩ = some (.bool t142) := (blk_cell BK143.out 4).trans rfl
                      have hfz77_0 := blk_frozen BK143.out 0
                      have hfz77_1 := blk_frozen BK143.out 1
                      have hfz77_2 := blk_frozen BK143.out 2
                      have hfz77_3 := blk_frozen BK143.out 3
                      have hfz77_4 := blk_frozen BK143.out 4
                      go_wp2_with (first | ((with_reducible refine gate_callee (f := 123) rfl ?_); refine goesL_ (some 79) rfl rfl Try.func123 (by kernel_rfl) rfl #[.bool t132, .int .u64 t133, .int .i64 t134] rfl (by (try simp only [List.map_toArray, List.map_cons, List.map_nil]); first | done | rfl | (simp only [List.length_drop, List.length_take]; rfl)) ?_; (with_reducible refine (latheref02_Round.calls kj47 t132 t133 t134 t150 _ A74.out).mono ?_); clear A74; rintro e w78 ⟨rfl, hb⟩; refine ⟨_, rfl, ?_⟩; have n0_ := Aside0.mk (blk_below (g := gb137) (o := .cells #[.bool t132, .int .u64 t133, .int .i64 t134, .bool false, .bool t136] 129 (0, 0)) (by (with_reducible repeat (first | refine blk_drewN ?_ _ | refine blk_drew ?_ | refine blk_alloc ?_ _)); exact BK137.out) hb); have n1_ := Aside0.mk (blk_below (g := gb143) (o := .cells #[.bool t138, .int .u64 t139, .int .i64 t140, .bool false, .bool t142] 129 (0, 0)) (by (with_reducible repeat (first | refine blk_drewN ?_ _ | refine blk_drew ?_ | refine blk_alloc ?_ _)); exact BK143.out) hb); have n2_ := Aside0.mk (below_step (by repeat (first | (with_reducible first | exact HB.out | apply below_alloc | apply pw_below_drewN | apply below_drew1 | refine below_set ?_ GE137.out | refine below_set ?_ GE143.out) | exact HB.out)) hb); clear BK137; clear BK143; clear HB; have BK137 := n0_; have BK143 := n1_; have HB := n2_; clear n0_ n1_ n2_; (try clear hb); (try clear hb2); (try clear hk); (try clear hi)))
                      go_ret
                      exact ⟨by first | rfl | (simp [errW_none, errW_some] <;> rfl) | (simp [*, errW_none, errW_some] <;> rfl), by repeat (first | (with_reducible first | exact HB.out | apply below_alloc | apply pw_below_drewN | apply below_drew1 | refine below_set ?_ GE137.out | refine below_set ?_ GE143.out) | exact HB.out)⟩
                    · rw [if_neg c73] at H
                      have c73b0 : (t139 == 0) = false := beq_eq_false_iff_ne.mpr c73
                      have c73b1 : (t139 != 0) = true := bne_iff_ne.mpr c73
                      by_cases c79 : t134 < t140
                      · rw [if_pos c79] at H
                        have c79b0 : decide (t134 < t140) = true := decide_eq_true c79
                        clear c79
                        replace H := Option.bind_eq_some_iff.mp H
                        obtain ⟨t151, A800, H⟩ := H
                        replace H : (some t151) = some r := H
                        have A80 := Aside0.mk A800
                        clear A800
                        obtain rfl := Option.some.inj H
                        have hnb81 := NB137_143.out
                        have hnc81 := NB143_137.out
                        have hcz82_0 : wc.cell? ⟨gb137, 0, none⟩ = some (.bool t132) := (blk_cell BK137.out 0).trans rfl
                        have hcz82_1 : wc.cell? ⟨gb137, 1, none⟩ = some (.int .u64 t133) := (blk_cell BK137.out 1).trans rfl
                        have hcz82_2 : wc.cell? ⟨gb137, 2, none⟩ = some (.int .i64 t134) := (blk_cell BK137.out 2).trans rfl
                        have hcz82_3 : wc.cell? ⟨gb137, 3, none⟩ = some (.bool false) := (blk_cell BK137.out 3).trans rfl
                        have hcz82_4 : wc.cell? ⟨gb137, 4, none⟩ = some (.bool t136) := (blk_cell BK137.out 4).trans rfl
                        have hfz82_0 := blk_frozen BK137.out 0
                        have hfz82_1 := blk_frozen BK137.out 1
                        have hfz82_2 := blk_frozen BK137.out 2
                        have hfz82_3 := blk_frozen BK137.out 3
                        have hfz82_4 := blk_frozen BK137.out 4
                        have hcz83_0 : wc.cell? ⟨gb143, 0, none⟩ = some (.bool t138) := (blk_cell BK143.out 0).trans rfl
                        have hcz83_1 : wc.cell? ⟨gb143, 1, none⟩ = some (.int .u64 t139) := (blk_cell BK143.out 1).trans rfl
                        have hcz83_2 : wc.cell? ⟨gb143, 2, none⟩ = some (.int .i64 t140) := (blk_cell BK143.out 2).trans rfl
                        have hcz83_3 : wc.cell? ⟨gb143, 3, none⟩ = some (.bool false) := (blk_cell BK143.out 3).trans rfl
                        have hcz83_4 : wc.cell? ⟨gb143, 4, none⟩ = some (.bool t142) := (blk_cell BK143.out 4).trans rfl
                        have hfz83_0 := blk_frozen BK143.out 0
                        have hfz83_1 := blk_frozen BK143.out 1
                        have hfz83_2 := blk_frozen BK143.out 2
                        have hfz83_3 := blk_frozen BK143.out 3
                        have hfz83_4 := blk_frozen BK143.out 4
                        go_wp2_with (first | ((with_reducible refine gate_callee (f := 124) rfl ?_); refine goesL_ (some 89) rfl rfl Try.func124 (by kernel_rfl) rfl #[.agg #[.bool t138, .int .u64 t139, .int .i64 t140, .bool false, .bool t142], .agg #[.bool t132, .int .u64 t133, .int .i64 t134, .bool false, .bool t136]] rfl (by (try simp only [List.map_toArray, List.map_cons, List.map_nil]); first | done | rfl | (simp only [List.length_drop, List.length_take]; rfl)) ?_; (with_reducible refine (latheref02_sum.calls kj47 t138 t139 t140 false t142 t132 t133 t134 false t136 t151 _ A80.out).mono ?_); clear A80; rintro e w84 ⟨rfl, hb⟩; refine ⟨_, rfl, ?_⟩; have n0_ := Aside0.mk (blk_below (g := gb137) (o := .cells #[.bool t138, .int .u64 t139, .int .i64 t140, .bool false, .bool t142] 129 (0, 0)) (by (with_reducible repeat (first | refine blk_drewN ?_ _ | refine blk_drew ?_ | refine blk_alloc ?_ _)); refine blk_far ?_ NB137_143.out _; (with_reducible repeat (first | refine blk_drewN ?_ _ | refine blk_drew ?_ | refine blk_alloc ?_ _)); refine blk_far ?_ NB137_143.out _; (with_reducible repeat (first | refine blk_drewN ?_ _ | refine blk_drew ?_ | refine blk_alloc ?_ _)); refine blk_far ?_ NB137_143.out _; (with_reducible repeat (first | refine blk_drewN ?_ _ | refine blk_drew ?_ | refine blk_alloc ?_ _)); refine blk_far ?_ NB137_143.out _; (with_reducible repeat (first | refine blk_drewN ?_ _ | refine blk_drew ?_ | refine blk_alloc ?_ _)); refine blk_far ?_ NB137_143.out _; (with_reducible repeat (first | refine blk_drewN ?_ _ | refine blk_drew ?_ | refine blk_alloc ?_ _)); refine blk_put (cs := #[.bool t138, .int .u64 t139, .int .i64 t140, .bool false, .bool t136]) ?_ 4 _ rfl; (with_reducible repeat (first | refine blk_drewN ?_ _ | refine blk_drew ?_ | refine blk_alloc ?_ _)); refine blk_put (cs := #[.bool t138, .int .u64 t139, .int .i64 t140, .bool false, .bool t136]) ?_ 3 _ rfl; (with_reducible repeat (first | refine blk_drewN ?_ _ | refine blk_drew ?_ | refine blk_alloc ?_ _)); refine blk_put (cs := #[.bool t138, .int .u64 t139, .int .i64 t134, .bool false, .bool t136]) ?_ 2 _ rfl; (with_reducible repeat (first | refine blk_drewN ?_ _ | refine blk_drew ?_ | refine blk_alloc ?_ _)); refine blk_put (cs := #[.bool t138, .int .u64 t133, .int .i64 t134, .bool false, .bool t136]) ?_ 1 _ rfl; (with_reducible repeat (first | refine blk_drewN ?_ _ | refine blk_drew ?_ | refine blk_alloc ?_ _)); refine blk_put (cs := #[.bool t132, .int .u64 t133, .int .i64 t134, .bool false, .bool t136]) ?_ 0 _ rfl; (with_reducible repeat (first | refine blk_drewN ?_ _ | refine blk_drew ?_ | refine blk_alloc ?_ _)); exact BK137.out) hb); have n1_ := Aside0.mk (blk_below (g := gb143) (o := .cells #[.bool t132, .int .u64 t133, .int .i64 t134, .bool false, .bool t136] 129 (0, 0)) (by (with_reducible repeat (first | refine blk_drewN ?_ _ | refine blk_drew ?_ | refine blk_alloc ?_ _)); refine blk_put (cs := #[.bool t132, .int .u64 t133, .int .i64 t134, .bool false, .bool t142]) ?_ 4 _ rfl; (with_reducible repeat (first | refine blk_drewN ?_ _ | refine blk_drew ?_ | refine blk_alloc ?_ _)); refine blk_put (cs := #[.bool t132, .int .u64 t133, .int .i64 t134, .bool false, .bool t142]) ?_ 3 _ rfl; (with_reducible repeat (first | refine blk_drewN ?_ _ | refine blk_drew ?_ | refine blk_alloc ?_ _)); refine blk_put (cs := #[.bool t132, .int .u64 t133, .int .i64 t140, .bool false, .bool t142]) ?_ 2 _ rfl; (with_reducible repeat (first | refine blk_drewN ?_ _ | refine blk_drew ?_ | refine blk_alloc ?_ _)); refine blk_put (cs := #[.bool t132, .int .u64 t139, .int .i64 t140, .bool false, .bool t142]) ?_ 1 _ rfl; (with_reducible repeat (first | refine blk_drewN ?_ _ | refine blk_drew ?_ | refine blk_alloc ?_ _)); refine blk_put (cs := #[.bool t138, .int .u64 t139, .int .i64 t140, .bool false, .bool t142]) ?_ 0 _ rfl; (with_reducible repeat (first | refine blk_drewN ?_ _ | refine blk_drew ?_ | refine blk_alloc ?_ _)); refine blk_far ?_ NB143_137.out _; (with_reducible repeat (first | refine blk_drewN ?_ _ | refine blk_drew ?_ | refine blk_alloc ?_ _)); refine blk_far ?_ NB143_137.out _; (with_reducible repeat (first | refine blk_drewN ?_ _ | refine blk_drew ?_ | refine blk_alloc ?_ _)); refine blk_far ?_ NB143_137.out _; (with_reducible repeat (first | refine blk_drewN ?_ _ | refine blk_drew ?_ | refine blk_alloc ?_ _)); refine blk_far ?_ NB143_137.out _; (with_reducible repeat (first | refine blk_drewN ?_ _ | refine blk_drew ?_ | refine blk_alloc ?_ _)); refine blk_far ?_ NB143_137.out _; (with_reducible repeat (first | refine blk_drewN ?_ _ | refine blk_drew ?_ | refine blk_alloc ?_ _)); exact BK143.out) hb); have n2_ := Aside0.mk (below_step (by repeat (first | (with_reducible first | exact HB.out | apply below_alloc | apply pw_below_drewN | apply below_drew1 | refine below_set ?_ GE137.out | refine below_set ?_ GE143.out) | exact HB.out)) hb); clear BK137; clear BK143; clear HB; have BK137 := n0_; have BK143 := n1_; have HB := n2_; clear n0_ n1_ n2_; (try clear hb); (try clear hb2); (try clear hk); (try clear hi)))
                        go_ret
                        exact ⟨by first | rfl | (simp [errW_none, errW_some] <;> rfl) | (simp [*, errW_none, errW_some] <;> rfl), by repeat (first | (with_reducible first | exact HB.out | apply below_alloc | apply pw_below_drewN | apply below_drew1 | refine below_set ?_ GE137.out | refine below_set ?_ GE143.out) | exact HB.out)⟩
                      · rw [if_neg c79] at H
                        have c79b0 : decide (t134 < t140) = false := decide_eq_false c79
                        clear c79
                        replace H := Option.bind_eq_some_iff.mp H
                        obtain ⟨t152, A850, H⟩ := H
                        replace H : (some t152) = some r := H
                        have A85 := Aside0.mk A850
                        clear A850
                        obtain rfl := Option.some.inj H
                        have hnb86 := NB137_143.out
                        have hnc86 := NB143_137.out
                        have hcz87_0 : wc.cell? ⟨gb137, 0, none⟩ = some (.bool t132) := (blk_cell BK137.out 0).trans rfl
                        have hcz87_1 : wc.cell? ⟨gb137, 1, none⟩ = some (.int .u64 t133) := (blk_cell BK137.out 1).trans rfl
                        have hcz87_2 : wc.cell? ⟨gb137, 2, none⟩ = some (.int .i64 t134) := (blk_cell BK137.out 2).trans rfl
                        have hcz87_3 : wc.cell? ⟨gb137, 3, none⟩ = some (.bool false) := (blk_cell BK137.out 3).trans rfl
                        have hcz87_4 : wc.cell? ⟨gb137, 4, none⟩ = some (.bool t136) := (blk_cell BK137.out 4).trans rfl
                        have hfz87_0 := blk_frozen BK137.out 0
                        have hfz87_1 := blk_frozen BK137.out 1
                        have hfz87_2 := blk_frozen BK137.out 2
                        have hfz87_3 := blk_frozen BK137.out 3
                        have hfz87_4 := blk_frozen BK137.out 4
                        have hcz88_0 : wc.cell? ⟨gb143, 0, none⟩ = some (.bool t138) := (blk_cell BK143.out 0).trans rfl
                        have hcz88_1 : wc.cell? ⟨gb143, 1, none⟩ = some (.int .u64 t139) := (blk_cell BK143.out 1).trans rfl
                        have hcz88_2 : wc.cell? ⟨gb143, 2, none⟩ = some (.int .i64 t140) := (blk_cell BK143.out 2).trans rfl
                        have hcz88_3 : wc.cell? ⟨gb143, 3, none⟩ = some (.bool false) := (blk_cell BK143.out 3).trans rfl
                        have hcz88_4 : wc.cell? ⟨gb143, 4, none⟩ = some (.bool t142) := (blk_cell BK143.out 4).trans rfl
                        have hfz88_0 := blk_frozen BK143.out 0
                        have hfz88_1 := blk_frozen BK143.out 1
                        have hfz88_2 := blk_frozen BK143.out 2
                        have hfz88_3 := blk_frozen BK143.out 3
                        have hfz88_4 := blk_frozen BK143.out 4
                        go_wp2_with (first | ((with_reducible refine gate_callee (f := 124) rfl ?_); refine goesL_ (some 89) rfl rfl Try.func124 (by kernel_rfl) rfl #[.agg #[.bool t132, .int .u64 t133, .int .i64 t134, .bool false, .bool t136], .agg #[.bool t138, .int .u64 t139, .int .i64 t140, .bool false, .bool t142]] rfl (by (try simp only [List.map_toArray, List.map_cons, List.map_nil]); first | done | rfl | (simp only [List.length_drop, List.length_take]; rfl)) ?_; (with_reducible refine (latheref02_sum.calls kj47 t132 t133 t134 false t136 t138 t139 t140 false t142 t152 _ A85.out).mono ?_); clear A85; rintro e w89 ⟨rfl, hb⟩; refine ⟨_, rfl, ?_⟩; have n0_ := Aside0.mk (blk_below (g := gb137) (o := .cells #[.bool t132, .int .u64 t133, .int .i64 t134, .bool false, .bool t136] 129 (0, 0)) (by (with_reducible repeat (first | refine blk_drewN ?_ _ | refine blk_drew ?_ | refine blk_alloc ?_ _)); exact BK137.out) hb); have n1_ := Aside0.mk (blk_below (g := gb143) (o := .cells #[.bool t138, .int .u64 t139, .int .i64 t140, .bool false, .bool t142] 129 (0, 0)) (by (with_reducible repeat (first | refine blk_drewN ?_ _ | refine blk_drew ?_ | refine blk_alloc ?_ _)); exact BK143.out) hb); have n2_ := Aside0.mk (below_step (by repeat (first | (with_reducible first | exact HB.out | apply below_alloc | apply pw_below_drewN | apply below_drew1 | refine below_set ?_ GE137.out | refine below_set ?_ GE143.out) | exact HB.out)) hb); clear BK137; clear BK143; clear HB; have BK137 := n0_; have BK143 := n1_; have HB := n2_; clear n0_ n1_ n2_; (try clear hb); (try clear hb2); (try clear hk); (try clear hi)))
                        go_ret
                        exact ⟨by first | rfl | (simp [errW_none, errW_some] <;> rfl) | (simp [*, errW_none, errW_some] <;> rfl), by repeat (first | (with_reducible first | exact HB.out | apply below_alloc | apply pw_below_drewN | apply below_drew1 | refine below_set ?_ GE137.out | refine below_set ?_ GE143.out) | exact HB.out)⟩

end Go.Proofs.Ytmfladkimmnccaa.PG
