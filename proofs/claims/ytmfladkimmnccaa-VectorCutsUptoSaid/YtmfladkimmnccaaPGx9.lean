/- The functions of the program that a statement reaches, as plain functions, and that the machine's calls do what these say. No condition. (Printed by a program.) -/
import Derived.Test.YtmfladkimmnccaaPGx0
import Derived.Test.YtmfladkimmnccaaPGx2
import Derived.Test.YtmfladkimmnccaaPGx3
import Derived.Test.YtmfladkimmnccaaPGx6
namespace Go.Proofs.Ytmfladkimmnccaa.PG
open Go.RowKit Go.Proofs.YtmfladkimmnccaaW.PrintWords Go.Proofs.YtmfladkimmnccaaW.PrintLast Go.Proofs.YtmfladkimmnccaaW.PrintMore
attribute [local go_sem] max2_int min2_int max_two min_two max_three min_three max_four min_four   -- for this text's walks alone
set_option linter.unusedVariables false
set_option linter.unusedSimpArgs false

/-! ### latheref02_Div: function 78 -/
mutual
def latheref02_Div.j0 : Nat → Bool → Bool → Bool → Int → Int → Bool → Bool → Bool → Int → Int → Bool → Bool → Option (Int)
  | 0, _, _, _, _, _, _, _, _, _, _, _, _ => none
  | k + 1, x7, x20, x187000, x187001, x187002, x187003, x187004, x193000, x193001, x193002, x193003, x193004 => if x20 = true then (some 2143289344) else (if x187003 = true then (latheref02_Div.j1 k x7 true x187000 x187001 x187002 x187003 x187004 x193000 x193001 x193002 x193003 x193004) else (if x193003 = true then (latheref02_Div.j1 k x7 false x187000 x187001 x187002 x187003 x187004 x193000 x193001 x193002 x193003 x193004) else (latheref02_Div.j1 k x7 (x193001 == 0) x187000 x187001 x187002 x187003 x187004 x193000 x193001 x193002 x193003 x193004)))
def latheref02_Div.j1 : Nat → Bool → Bool → Bool → Int → Int → Bool → Bool → Bool → Int → Int → Bool → Bool → Option (Int)
  | 0, _, _, _, _, _, _, _, _, _, _, _, _ => none
  | k + 1, x7, x52, x187000, x187001, x187002, x187003, x187004, x193000, x193001, x193002, x193003, x193004 => if x52 = true then ((latheref02_infinite.f x7).bind fun t194 => (some t194)) else (if x193003 = true then ((latheref02_zero.f x7).bind fun t195 => (some t195)) else (if x187001 = 0 then ((latheref02_zero.f x7).bind fun t196 => (some t196)) else ((latheref02_up.f x187000 x187001 x187002 x187003 x187004).bind fun bt197 => ((latheref02_up.f x193000 x193001 x193002 x193003 x193004).bind fun bt202 => (if bt202.2.1 = 0 then (none) else (if (Int.tmod (IntKind.u64.wrap (bt197.2.1 * 274877906944)) bt202.2.1) > 0 then ((latheref02_Round.f k x7 (IntKind.u64.wrap ((IntKind.u64.wrap ((IntKind.u64.wrap (Int.tdiv (IntKind.u64.wrap (bt197.2.1 * 274877906944)) bt202.2.1)) * 2)) + 1)) (wrap64 ((wrap64 (bt197.2.2.1 - bt202.2.2.1)) - 39))).bind fun t207 => (some t207)) else ((latheref02_Round.f k x7 (IntKind.u64.wrap ((IntKind.u64.wrap (Int.tdiv (IntKind.u64.wrap (bt197.2.1 * 274877906944)) bt202.2.1)) * 2)) (wrap64 ((wrap64 (bt197.2.2.1 - bt202.2.2.1)) - 39))).bind fun t208 => (some t208))))))))
end
def latheref02_Div.f (k : Nat) (a0 : Int) (a1 : Int) : Option (Int) := (latheref02_Of.f a0).bind fun bt181 => ((latheref02_Of.f a1).bind fun bt187 => ((latheref02_nan.f bt181.1 bt181.2.1 bt181.2.2.1 bt181.2.2.2.1 bt181.2.2.2.2 bt187.1 bt187.2.1 bt187.2.2.1 bt187.2.2.2.1 bt187.2.2.2.2).bind fun t193 => (if t193 = true then (latheref02_Div.j0 k (bt181.1 != bt187.1) true bt181.1 bt181.2.1 bt181.2.2.1 bt181.2.2.2.1 bt181.2.2.2.2 bt187.1 bt187.2.1 bt187.2.2.1 bt187.2.2.2.1 bt187.2.2.2.2) else (if bt181.2.2.2.1 = true then (if bt187.2.2.2.1 = true then (latheref02_Div.j0 k (bt181.1 != bt187.1) true bt181.1 bt181.2.1 bt181.2.2.1 bt181.2.2.2.1 bt181.2.2.2.2 bt187.1 bt187.2.1 bt187.2.2.1 bt187.2.2.2.1 bt187.2.2.2.2) else (latheref02_Div.j0 k (bt181.1 != bt187.1) false bt181.1 bt181.2.1 bt181.2.2.1 bt181.2.2.2.1 bt181.2.2.2.2 bt187.1 bt187.2.1 bt187.2.2.1 bt187.2.2.2.1 bt187.2.2.2.2)) else (if bt187.2.2.2.1 = true then (latheref02_Div.j0 k (bt181.1 != bt187.1) false bt181.1 bt181.2.1 bt181.2.2.1 bt181.2.2.2.1 bt181.2.2.2.2 bt187.1 bt187.2.1 bt187.2.2.1 bt187.2.2.2.1 bt187.2.2.2.2) else (if bt181.2.1 = 0 then (latheref02_Div.j0 k (bt181.1 != bt187.1) (bt187.2.1 == 0) bt181.1 bt181.2.1 bt181.2.2.1 bt181.2.2.2.1 bt181.2.2.2.2 bt187.1 bt187.2.1 bt187.2.2.1 bt187.2.2.2.1 bt187.2.2.2.2) else (latheref02_Div.j0 k (bt181.1 != bt187.1) false bt181.1 bt181.2.1 bt181.2.2.1 bt181.2.2.2.1 bt181.2.2.2.2 bt187.1 bt187.2.1 bt187.2.2.1 bt187.2.2.2.1 bt187.2.2.2.2)))))))
theorem latheref02_Div.mono_l : ∀ k, (∀ y0 y1 y2 y3 y4 y5 y6 y7 y8 y9 y10 y11, LeO (latheref02_Div.j0 k y0 y1 y2 y3 y4 y5 y6 y7 y8 y9 y10 y11) (latheref02_Div.j0 (k + 1) y0 y1 y2 y3 y4 y5 y6 y7 y8 y9 y10 y11)) ∧ (∀ y0 y1 y2 y3 y4 y5 y6 y7 y8 y9 y10 y11, LeO (latheref02_Div.j1 k y0 y1 y2 y3 y4 y5 y6 y7 y8 y9 y10 y11) (latheref02_Div.j1 (k + 1) y0 y1 y2 y3 y4 y5 y6 y7 y8 y9 y10 y11))
  | 0 => ⟨fun _ _ _ _ _ _ _ _ _ _ _ _ r h => by simp [latheref02_Div.j0] at h, fun _ _ _ _ _ _ _ _ _ _ _ _ r h => by simp [latheref02_Div.j1] at h⟩
  | k + 1 => by
    obtain ⟨ih0, ih1⟩ := latheref02_Div.mono_l k
    refine ⟨?_, ?_⟩
    · intro y0 y1 y2 y3 y4 y5 y6 y7 y8 y9 y10 y11
      unfold latheref02_Div.j0
      repeat' first
      | (with_reducible exact ih0 _ _ _ _ _ _ _ _ _ _ _ _)
      | (with_reducible exact ih1 _ _ _ _ _ _ _ _ _ _ _ _)
      | (with_reducible exact latheref02_Round.mono _ _ _ _)
      | (with_reducible exact LeO.refl _)
      | (with_reducible exact LeO.none _)
      | (with_reducible refine LeO.ite ?_ ?_)
      | (with_reducible refine LeO.bind ?_ (fun _ => ?_))
      | exact ih0 _ _ _ _ _ _ _ _ _ _ _ _
      | exact ih1 _ _ _ _ _ _ _ _ _ _ _ _
      | exact latheref02_Round.mono _ _ _ _
      | exact LeO.none _
      | refine LeO.ite ?_ ?_
      | refine LeO.bind ?_ (fun _ => ?_)
    · intro y0 y1 y2 y3 y4 y5 y6 y7 y8 y9 y10 y11
      unfold latheref02_Div.j1
      repeat' first
      | (with_reducible exact ih0 _ _ _ _ _ _ _ _ _ _ _ _)
      | (with_reducible exact ih1 _ _ _ _ _ _ _ _ _ _ _ _)
      | (with_reducible exact latheref02_Round.mono _ _ _ _)
      | (with_reducible exact LeO.refl _)
      | (with_reducible exact LeO.none _)
      | (with_reducible refine LeO.ite ?_ ?_)
      | (with_reducible refine LeO.bind ?_ (fun _ => ?_))
      | exact ih0 _ _ _ _ _ _ _ _ _ _ _ _
      | exact ih1 _ _ _ _ _ _ _ _ _ _ _ _
      | exact latheref02_Round.mono _ _ _ _
      | exact LeO.none _
      | refine LeO.ite ?_ ?_
      | refine LeO.bind ?_ (fun _ => ?_)
theorem latheref02_Div.mono : ∀ a0 a1 k, LeO (latheref02_Div.f k a0 a1) (latheref02_Div.f (k + 1) a0 a1) := by
  intro a0 a1 k
  obtain ⟨ih0, ih1⟩ := latheref02_Div.mono_l k
  unfold latheref02_Div.f
  repeat' first
      | (with_reducible exact ih0 _ _ _ _ _ _ _ _ _ _ _ _)
      | (with_reducible exact ih1 _ _ _ _ _ _ _ _ _ _ _ _)
      | (with_reducible exact latheref02_Round.mono _ _ _ _)
      | (with_reducible exact LeO.refl _)
      | (with_reducible exact LeO.none _)
      | (with_reducible refine LeO.ite ?_ ?_)
      | (with_reducible refine LeO.bind ?_ (fun _ => ?_))
      | exact ih0 _ _ _ _ _ _ _ _ _ _ _ _
      | exact ih1 _ _ _ _ _ _ _ _ _ _ _ _
      | exact latheref02_Round.mono _ _ _ _
      | exact LeO.none _
      | refine LeO.ite ?_ ?_
      | refine LeO.bind ?_ (fun _ => ?_)
set_option maxHeartbeats 8000000 in
set_option maxRecDepth 100000 in
theorem latheref02_Div.calls (k : Nat) (a0 : Int) (a1 : Int) (r : Int) (w : World) (h : latheref02_Div.f k a0 a1 = some r) :
    Calls Try.prog 78 #[.int .i64 a0, .int .i64 a1] w fun e w' => e = .returned (.int .i64 r) ∧ Below w.heap.size w w' := by
  have hu129 := Try.underlying129
  have HB := Aside0.mk (Below.refl w.heap.size w)
  have H : ((latheref02_Of.f a0).bind fun bt181 => ((latheref02_Of.f a1).bind fun bt187 => ((latheref02_nan.f bt181.1 bt181.2.1 bt181.2.2.1 bt181.2.2.2.1 bt181.2.2.2.2 bt187.1 bt187.2.1 bt187.2.2.1 bt187.2.2.2.1 bt187.2.2.2.2).bind fun t193 => (if t193 = true then (latheref02_Div.j0 k (bt181.1 != bt187.1) true bt181.1 bt181.2.1 bt181.2.2.1 bt181.2.2.2.1 bt181.2.2.2.2 bt187.1 bt187.2.1 bt187.2.2.1 bt187.2.2.2.1 bt187.2.2.2.2) else (if bt181.2.2.2.1 = true then (if bt187.2.2.2.1 = true then (latheref02_Div.j0 k (bt181.1 != bt187.1) true bt181.1 bt181.2.1 bt181.2.2.1 bt181.2.2.2.1 bt181.2.2.2.2 bt187.1 bt187.2.1 bt187.2.2.1 bt187.2.2.2.1 bt187.2.2.2.2) else (latheref02_Div.j0 k (bt181.1 != bt187.1) false bt181.1 bt181.2.1 bt181.2.2.1 bt181.2.2.2.1 bt181.2.2.2.2 bt187.1 bt187.2.1 bt187.2.2.1 bt187.2.2.2.1 bt187.2.2.2.2)) else (if bt187.2.2.2.1 = true then (latheref02_Div.j0 k (bt181.1 != bt187.1) false bt181.1 bt181.2.1 bt181.2.2.1 bt181.2.2.2.1 bt181.2.2.2.2 bt187.1 bt187.2.1 bt187.2.2.1 bt187.2.2.2.1 bt187.2.2.2.2) else (if bt181.2.1 = 0 then (latheref02_Div.j0 k (bt181.1 != bt187.1) (bt187.2.1 == 0) bt181.1 bt181.2.1 bt181.2.2.1 bt181.2.2.2.1 bt181.2.2.2.2 bt187.1 bt187.2.1 bt187.2.2.1 bt187.2.2.2.1 bt187.2.2.2.2) else (latheref02_Div.j0 k (bt181.1 != bt187.1) false bt181.1 bt181.2.1 bt181.2.2.1 bt181.2.2.2.1 bt181.2.2.2.2 bt187.1 bt187.2.1 bt187.2.2.1 bt187.2.2.2.1 bt187.2.2.2.2)))))))) = some r := h
  clear h
  replace H := Option.bind_eq_some_iff.mp H
  obtain ⟨⟨t181, t182, t183, t184, t185⟩, A30, H⟩ := H
  replace H : ((latheref02_Of.f a1).bind fun bt187 => ((latheref02_nan.f t181 t182 t183 t184 t185 bt187.1 bt187.2.1 bt187.2.2.1 bt187.2.2.2.1 bt187.2.2.2.2).bind fun t193 => (if t193 = true then (latheref02_Div.j0 k (t181 != bt187.1) true t181 t182 t183 t184 t185 bt187.1 bt187.2.1 bt187.2.2.1 bt187.2.2.2.1 bt187.2.2.2.2) else (if t184 = true then (if bt187.2.2.2.1 = true then (latheref02_Div.j0 k (t181 != bt187.1) true t181 t182 t183 t184 t185 bt187.1 bt187.2.1 bt187.2.2.1 bt187.2.2.2.1 bt187.2.2.2.2) else (latheref02_Div.j0 k (t181 != bt187.1) false t181 t182 t183 t184 t185 bt187.1 bt187.2.1 bt187.2.2.1 bt187.2.2.2.1 bt187.2.2.2.2)) else (if bt187.2.2.2.1 = true then (latheref02_Div.j0 k (t181 != bt187.1) false t181 t182 t183 t184 t185 bt187.1 bt187.2.1 bt187.2.2.1 bt187.2.2.2.1 bt187.2.2.2.2) else (if t182 = 0 then (latheref02_Div.j0 k (t181 != bt187.1) (bt187.2.1 == 0) t181 t182 t183 t184 t185 bt187.1 bt187.2.1 bt187.2.2.1 bt187.2.2.2.1 bt187.2.2.2.2) else (latheref02_Div.j0 k (t181 != bt187.1) false t181 t182 t183 t184 t185 bt187.1 bt187.2.1 bt187.2.2.1 bt187.2.2.2.1 bt187.2.2.2.2))))))) = some r := H
  have A3 := Aside0.mk A30
  clear A30
  replace H := Option.bind_eq_some_iff.mp H
  obtain ⟨⟨t187, t188, t189, t190, t191⟩, A40, H⟩ := H
  replace H : ((latheref02_nan.f t181 t182 t183 t184 t185 t187 t188 t189 t190 t191).bind fun t193 => (if t193 = true then (latheref02_Div.j0 k (t181 != t187) true t181 t182 t183 t184 t185 t187 t188 t189 t190 t191) else (if t184 = true then (if t190 = true then (latheref02_Div.j0 k (t181 != t187) true t181 t182 t183 t184 t185 t187 t188 t189 t190 t191) else (latheref02_Div.j0 k (t181 != t187) false t181 t182 t183 t184 t185 t187 t188 t189 t190 t191)) else (if t190 = true then (latheref02_Div.j0 k (t181 != t187) false t181 t182 t183 t184 t185 t187 t188 t189 t190 t191) else (if t182 = 0 then (latheref02_Div.j0 k (t181 != t187) (t188 == 0) t181 t182 t183 t184 t185 t187 t188 t189 t190 t191) else (latheref02_Div.j0 k (t181 != t187) false t181 t182 t183 t184 t185 t187 t188 t189 t190 t191)))))) = some r := H
  have A4 := Aside0.mk A40
  clear A40
  have HC5 := Aside0.mk H
  clear H
  go_enter Try.func78, Try.ntmps78
  go_upto_region 4 with (first | ((with_reducible refine gate_callee (f := 119) rfl ?_); refine goesL_ (some 12) rfl rfl Try.func119 (by kernel_rfl) rfl #[.int .i64 a0] rfl (by (try simp only [List.map_toArray, List.map_cons, List.map_nil]); first | done | rfl | (simp only [List.length_drop, List.length_take]; rfl)) ?_; (with_reducible refine (latheref02_Of.calls a0 t181 t182 t183 t184 t185 _ A3.out).mono ?_); clear A3; rintro e w6 ⟨rfl, hb⟩; refine ⟨_, rfl, ?_⟩; have n0_ := Aside0.mk (below_step (by repeat (first | (with_reducible first | exact HB.out | apply below_alloc | apply pw_below_drewN | apply below_drew1) | exact HB.out)) hb); clear HB; have HB := n0_; clear n0_; (try clear hb); (try clear hb2); (try clear hk); (try clear hi)) | ((with_reducible refine gate_dst (N := 5) rfl ?_); refine box_event ?hg (N := 5) ?hd (cs := #[.bool false, .int .u64 0, .int .i64 0, .bool false, .bool false]) (t := 129) ?hr ?_; (case hd => rfl); (case hg => rfl); (case hr => first | (go_simp; done) | (go_simp; rfl)); intro gb186 hg w7 hbox hb; have n0_ := Aside0.mk (below_step (by repeat (first | (with_reducible first | exact HB.out | apply below_alloc | apply pw_below_drewN | apply below_drew1) | exact HB.out)) hb); have n1_ := Aside0.mk (hbox); have n2_ := Aside0.mk ((by rw [hg]; exact (below_size (by repeat (first | (with_reducible first | exact HB.out | apply below_alloc | apply pw_below_drewN | apply below_drew1) | exact HB.out))) : w.heap.size ≤ gb186)); have n3_ := Aside0.mk ((by rw [hg]; exact (below_size (by repeat (first | (with_reducible first | exact HB.out | apply below_alloc | apply pw_below_drewN | apply below_drew1) | exact HB.out))) : w.heap.size ≤ gb186)); clear HB; have HB := n0_; have BK186 := n1_; have GW186 := n2_; have GE186 := n3_; clear n0_ n1_ n2_ n3_; clear hb hbox hg; have hcz8_0 : w7.cell? ⟨gb186, 0, none⟩ = some (.bool false) := (blk_cell BK186.out 0).trans rfl; have hcz8_1 : w7.cell? ⟨gb186, 1, none⟩ = some (.int .u64 0) := (blk_cell BK186.out 1).trans rfl; have hcz8_2 : w7.cell? ⟨gb186, 2, none⟩ = some (.int .i64 0) := (blk_cell BK186.out 2).trans rfl; have hcz8_3 : w7.cell? ⟨gb186, 3, none⟩ = some (.bool false) := (blk_cell BK186.out 3).trans rfl; have hcz8_4 : w7.cell? ⟨gb186, 4, none⟩ = some (.bool false) := (blk_cell BK186.out 4).trans rfl; have hfz8_0 := blk_frozen BK186.out 0; have hfz8_1 := blk_frozen BK186.out 1; have hfz8_2 := blk_frozen BK186.out 2; have hfz8_3 := blk_frozen BK186.out 3; have hfz8_4 := blk_frozen BK186.out 4) | ((with_reducible refine gate_callee (f := 119) rfl ?_); refine goesL_ (some 14) rfl rfl Try.func119 (by kernel_rfl) rfl #[.int .i64 a1] rfl (by (try simp only [List.map_toArray, List.map_cons, List.map_nil]); first | done | rfl | (simp only [List.length_drop, List.length_take]; rfl)) ?_; (with_reducible refine (latheref02_Of.calls a1 t187 t188 t189 t190 t191 _ A4.out).mono ?_); clear A4; rintro e w9 ⟨rfl, hb⟩; refine ⟨_, rfl, ?_⟩; have n0_ := Aside0.mk (blk_below (g := gb186) (o := .cells #[.bool t181, .int .u64 t182, .int .i64 t183, .bool t184, .bool t185] 129 (0, 0)) (by (with_reducible repeat (first | refine blk_drewN ?_ _ | refine blk_drew ?_ | refine blk_alloc ?_ _)); refine blk_put (cs := #[.bool t181, .int .u64 t182, .int .i64 t183, .bool t184, .bool false]) ?_ 4 _ rfl; (with_reducible repeat (first | refine blk_drewN ?_ _ | refine blk_drew ?_ | refine blk_alloc ?_ _)); refine blk_put (cs := #[.bool t181, .int .u64 t182, .int .i64 t183, .bool false, .bool false]) ?_ 3 _ rfl; (with_reducible repeat (first | refine blk_drewN ?_ _ | refine blk_drew ?_ | refine blk_alloc ?_ _)); refine blk_put (cs := #[.bool t181, .int .u64 t182, .int .i64 0, .bool false, .bool false]) ?_ 2 _ rfl; (with_reducible repeat (first | refine blk_drewN ?_ _ | refine blk_drew ?_ | refine blk_alloc ?_ _)); refine blk_put (cs := #[.bool t181, .int .u64 0, .int .i64 0, .bool false, .bool false]) ?_ 1 _ rfl; (with_reducible repeat (first | refine blk_drewN ?_ _ | refine blk_drew ?_ | refine blk_alloc ?_ _)); refine blk_put (cs := #[.bool false, .int .u64 0, .int .i64 0, .bool false, .bool false]) ?_ 0 _ rfl; (with_reducible repeat (first | refine blk_drewN ?_ _ | refine blk_drew ?_ | refine blk_alloc ?_ _)); exact BK186.out) hb); have n1_ := Aside0.mk (below_step (by repeat (first | (with_reducible first | exact HB.out | apply below_alloc | apply pw_below_drewN | apply below_drew1 | refine below_set ?_ GE186.out) | exact HB.out)) hb); clear BK186; clear HB; have BK186 := n0_; have HB := n1_; clear n0_ n1_; (try clear hb); (try clear hb2); (try clear hk); (try clear hi)) | ((with_reducible refine gate_dst (N := 6) rfl ?_); refine box_event ?hg (N := 6) ?hd (cs := #[.bool false, .int .u64 0, .int .i64 0, .bool false, .bool false]) (t := 129) ?hr ?_; (case hd => rfl); (case hg => rfl); (case hr => first | (go_simp; done) | (go_simp; rfl)); intro gb192 hg w10 hbox hb; have n0_ := Aside0.mk (blk_below (g := gb186) (o := .cells #[.bool t181, .int .u64 t182, .int .i64 t183, .bool t184, .bool t185] 129 (0, 0)) (by (with_reducible repeat (first | refine blk_drewN ?_ _ | refine blk_drew ?_ | refine blk_alloc ?_ _)); exact BK186.out) hb); have n1_ := Aside0.mk (below_step (by repeat (first | (with_reducible first | exact HB.out | apply below_alloc | apply pw_below_drewN | apply below_drew1 | refine below_set ?_ GE186.out) | exact HB.out)) hb); have n2_ := Aside0.mk (hbox); have n3_ := Aside0.mk ((by rw [hg]; exact (below_size (by repeat (first | (with_reducible first | exact HB.out | apply below_alloc | apply pw_below_drewN | apply below_drew1 | refine below_set ?_ GE186.out) | exact HB.out))) : w.heap.size ≤ gb192)); have n4_ := Aside0.mk ((by rw [hg]; exact (below_size (by repeat (first | (with_reducible first | exact HB.out | apply below_alloc | apply pw_below_drewN | apply below_drew1 | refine below_set ?_ GE186.out) | exact HB.out))) : w.heap.size ≤ gb192)); have n5_ := Aside0.mk ((by rw [hg]; exact Nat.ne_of_lt (blk_lt (g := gb186) (o := .cells #[.bool t181, .int .u64 t182, .int .i64 t183, .bool t184, .bool t185] 129 (0, 0)) (by (with_reducible repeat (first | refine blk_drewN ?_ _ | refine blk_drew ?_ | refine blk_alloc ?_ _)); exact BK186.out)) : gb186 ≠ gb192)); have n6_ := Aside0.mk ((by rw [hg]; exact Nat.ne_of_gt (blk_lt (g := gb186) (o := .cells #[.bool t181, .int .u64 t182, .int .i64 t183, .bool t184, .bool t185] 129 (0, 0)) (by (with_reducible repeat (first | refine blk_drewN ?_ _ | refine blk_drew ?_ | refine blk_alloc ?_ _)); exact BK186.out)) : gb192 ≠ gb186)); clear BK186; clear HB; have BK186 := n0_; have HB := n1_; have BK192 := n2_; have GW192 := n3_; have GE192 := n4_; have NB186_192 := n5_; have NB192_186 := n6_; clear n0_ n1_ n2_ n3_ n4_ n5_ n6_; clear hb hbox hg; have hnb11 := NB192_186.out; have hnc11 := NB186_192.out; have hcz12_0 : w10.cell? ⟨gb192, 0, none⟩ = some (.bool false) := (blk_cell BK192.out 0).trans rfl; have hcz12_1 : w10.cell? ⟨gb192, 1, none⟩ = some (.int .u64 0) := (blk_cell BK192.out 1).trans rfl; have hcz12_2 : w10.cell? ⟨gb192, 2, none⟩ = some (.int .i64 0) := (blk_cell BK192.out 2).trans rfl; have hcz12_3 : w10.cell? ⟨gb192, 3, none⟩ = some (.bool false) := (blk_cell BK192.out 3).trans rfl; have hcz12_4 : w10.cell? ⟨gb192, 4, none⟩ = some (.bool false) := (blk_cell BK192.out 4).trans rfl; have hfz12_0 := blk_frozen BK192.out 0; have hfz12_1 := blk_frozen BK192.out 1; have hfz12_2 := blk_frozen BK192.out 2; have hfz12_3 := blk_frozen BK192.out 3; have hfz12_4 := blk_frozen BK192.out 4; have hcz13_0 : w10.cell? ⟨gb186, 0, none⟩ = some (.bool t181) := (blk_cell BK186.out 0).trans rfl; have hcz13_1 : w10.cell? ⟨gb186, 1, none⟩ = some (.int .u64 t182) := (blk_cell BK186.out 1).trans rfl; have hcz13_2 : w10.cell? ⟨gb186, 2, none⟩ = some (.int .i64 t183) := (blk_cell BK186.out 2).trans rfl; have hcz13_3 : w10.cell? ⟨gb186, 3, none⟩ = some (.bool t184) := (blk_cell BK186.out 3).trans rfl; have hcz13_4 : w10.cell? ⟨gb186, 4, none⟩ = some (.bool t185) := (blk_cell BK186.out 4).trans rfl; have hfz13_0 := blk_frozen BK186.out 0; have hfz13_1 := blk_frozen BK186.out 1; have hfz13_2 := blk_frozen BK186.out 2; have hfz13_3 := blk_frozen BK186.out 3; have hfz13_4 := blk_frozen BK186.out 4))
  (try simp only [Act.put, List.setIfInBounds_toArray, List.set_cons_zero, List.set_cons_succ])
  go_cut [20] (fun v20 wc => ∃ (kq : Nat) (x20_4 : Bool), v20 = .bool x20_4 ∧ Aside0 (latheref02_Div.j0 kq (t181 != t187) x20_4 t181 t182 t183 t184 t185 t187 t188 t189 t190 t191 = some r) ∧ Aside0 (kq ≤ k) ∧ Aside0 (wc.heap[gb186]? = some (.cells #[.bool t181, .int .u64 t182, .int .i64 t183, .bool t184, .bool t185] 129 (0, 0))) ∧ Aside0 (wc.heap[gb192]? = some (.cells #[.bool t187, .int .u64 t188, .int .i64 t189, .bool t190, .bool t191] 129 (0, 0))) ∧ Aside0 (Below w.heap.size w wc))
  case first =>
    have H := HC5.out
    clear HC5
    replace H := Option.bind_eq_some_iff.mp H
    obtain ⟨t193, A140, H⟩ := H
    replace H : (if t193 = true then (latheref02_Div.j0 k (t181 != t187) true t181 t182 t183 t184 t185 t187 t188 t189 t190 t191) else (if t184 = true then (if t190 = true then (latheref02_Div.j0 k (t181 != t187) true t181 t182 t183 t184 t185 t187 t188 t189 t190 t191) else (latheref02_Div.j0 k (t181 != t187) false t181 t182 t183 t184 t185 t187 t188 t189 t190 t191)) else (if t190 = true then (latheref02_Div.j0 k (t181 != t187) false t181 t182 t183 t184 t185 t187 t188 t189 t190 t191) else (if t182 = 0 then (latheref02_Div.j0 k (t181 != t187) (t188 == 0) t181 t182 t183 t184 t185 t187 t188 t189 t190 t191) else (latheref02_Div.j0 k (t181 != t187) false t181 t182 t183 t184 t185 t187 t188 t189 t190 t191))))) = some r := H
    have A14 := Aside0.mk A140
    clear A140
    by_cases c15 : t193 = true
    · subst c15
      have H1 : (latheref02_Div.j0 k (t181 != t187) true t181 t182 t183 t184 t185 t187 t188 t189 t190 t191) = some r := by rw [if_pos rfl] at H; exact H
      clear H
      have H := H1
      clear H1
      have H' := Aside0.mk H
      clear H
      have hnb16 := NB186_192.out
      have hnc16 := NB192_186.out
      have hcz17_0 : w10.cell? ⟨gb186, 0, none⟩ = some (.bool t181) := (blk_cell BK186.out 0).trans rfl
      have hcz17_1 : w10.cell? ⟨gb186, 1, none⟩ = some (.int .u64 t182) := (blk_cell BK186.out 1).trans rfl
      have hcz17_2 : w10.cell? ⟨gb186, 2, none⟩ = some (.int .i64 t183) := (blk_cell BK186.out 2).trans rfl
      have hcz17_3 : w10.cell? ⟨gb186, 3, none⟩ = some (.bool t184) := (blk_cell BK186.out 3).trans rfl
      have hcz17_4 : w10.cell? ⟨gb186, 4, none⟩ = some (.bool t185) := (blk_cell BK186.out 4).trans rfl
      have hfz17_0 := blk_frozen BK186.out 0
      have hfz17_1 := blk_frozen BK186.out 1
      have hfz17_2 := blk_frozen BK186.out 2
      have hfz17_3 := blk_frozen BK186.out 3
      have hfz17_4 := blk_frozen BK186.out 4
      have hcz18_0 : w10.cell? ⟨gb192, 0, none⟩ = some (.bool false) := (blk_cell BK192.out 0).trans rfl
      have hcz18_1 : w10.cell? ⟨gb192, 1, none⟩ = some (.int .u64 0) := (blk_cell BK192.out 1).trans rfl
      have hcz18_2 : w10.cell? ⟨gb192, 2, none⟩ = some (.int .i64 0) := (blk_cell BK192.out 2).trans rfl
      have hcz18_3 : w10.cell? ⟨gb192, 3, none⟩ = some (.bool false) := (blk_cell BK192.out 3).trans rfl
      have hcz18_4 : w10.cell? ⟨gb192, 4, none⟩ = some (.bool false) := (blk_cell BK192.out 4).trans rfl
      have hfz18_0 := blk_frozen BK192.out 0
      have hfz18_1 := blk_frozen BK192.out 1
      have hfz18_2 := blk_frozen BK192.out 2
      have hfz18_3 := blk_frozen BK192.out 3
      have hfz18_4 := blk_frozen BK192.out 4
      go_wp2_with (first | ((with_reducible refine gate_callee (f := 120) rfl ?_); refine goesL_ (some 23) rfl rfl Try.func120 (by kernel_rfl) rfl #[.agg #[.bool t181, .int .u64 t182, .int .i64 t183, .bool t184, .bool t185], .agg #[.bool t187, .int .u64 t188, .int .i64 t189, .bool t190, .bool t191]] rfl (by (try simp only [List.map_toArray, List.map_cons, List.map_nil]); first | done | rfl | (simp only [List.length_drop, List.length_take]; rfl)) ?_; (with_reducible refine (latheref02_nan.calls t181 t182 t183 t184 t185 t187 t188 t189 t190 t191 true _ A14.out).mono ?_); clear A14; rintro e w19 ⟨rfl, hb⟩; refine ⟨_, rfl, ?_⟩; have n0_ := Aside0.mk (blk_below (g := gb186) (o := .cells #[.bool t181, .int .u64 t182, .int .i64 t183, .bool t184, .bool t185] 129 (0, 0)) (by (with_reducible repeat (first | refine blk_drewN ?_ _ | refine blk_drew ?_ | refine blk_alloc ?_ _)); refine blk_far ?_ NB186_192.out _; (with_reducible repeat (first | refine blk_drewN ?_ _ | refine blk_drew ?_ | refine blk_alloc ?_ _)); refine blk_far ?_ NB186_192.out _; (with_reducible repeat (first | refine blk_drewN ?_ _ | refine blk_drew ?_ | refine blk_alloc ?_ _)); refine blk_far ?_ NB186_192.out _; (with_reducible repeat (first | refine blk_drewN ?_ _ | refine blk_drew ?_ | refine blk_alloc ?_ _)); refine blk_far ?_ NB186_192.out _; (with_reducible repeat (first | refine blk_drewN ?_ _ | refine blk_drew ?_ | refine blk_alloc ?_ _)); refine blk_far ?_ NB186_192.out _; (with_reducible repeat (first | refine blk_drewN ?_ _ | refine blk_drew ?_ | refine blk_alloc ?_ _)); exact BK186.out) hb); have n1_ := Aside0.mk (blk_below (g := gb192) (o := .cells #[.bool t187, .int .u64 t188, .int .i64 t189, .bool t190, .bool t191] 129 (0, 0)) (by (with_reducible repeat (first | refine blk_drewN ?_ _ | refine blk_drew ?_ | refine blk_alloc ?_ _)); refine blk_put (cs := #[.bool t187, .int .u64 t188, .int .i64 t189, .bool t190, .bool false]) ?_ 4 _ rfl; (with_reducible repeat (first | refine blk_drewN ?_ _ | refine blk_drew ?_ | refine blk_alloc ?_ _)); refine blk_put (cs := #[.bool t187, .int .u64 t188, .int .i64 t189, .bool false, .bool false]) ?_ 3 _ rfl; (with_reducible repeat (first | refine blk_drewN ?_ _ | refine blk_drew ?_ | refine blk_alloc ?_ _)); refine blk_put (cs := #[.bool t187, .int .u64 t188, .int .i64 0, .bool false, .bool false]) ?_ 2 _ rfl; (with_reducible repeat (first | refine blk_drewN ?_ _ | refine blk_drew ?_ | refine blk_alloc ?_ _)); refine blk_put (cs := #[.bool t187, .int .u64 0, .int .i64 0, .bool false, .bool false]) ?_ 1 _ rfl; (with_reducible repeat (first | refine blk_drewN ?_ _ | refine blk_drew ?_ | refine blk_alloc ?_ _)); refine blk_put (cs := #[.bool false, .int .u64 0, .int .i64 0, .bool false, .bool false]) ?_ 0 _ rfl; (with_reducible repeat (first | refine blk_drewN ?_ _ | refine blk_drew ?_ | refine blk_alloc ?_ _)); exact BK192.out) hb); have n2_ := Aside0.mk (below_step (by repeat (first | (with_reducible first | exact HB.out | apply below_alloc | apply pw_below_drewN | apply below_drew1 | refine below_set ?_ GE186.out | refine below_set ?_ GE192.out) | exact HB.out)) hb); clear BK186; clear BK192; clear HB; have BK186 := n0_; have BK192 := n1_; have HB := n2_; clear n0_ n1_ n2_; (try clear hb); (try clear hb2); (try clear hk); (try clear hi)))
      go_meet
      case rel => exact ⟨_, (true), (by first | rfl | (simp; done) | (simp [*]; done)), H', ⟨by first | omega | exact Nat.le_refl _⟩, ⟨by (with_reducible repeat (first | refine blk_drewN ?_ _ | refine blk_drew ?_ | refine blk_alloc ?_ _)); exact BK186.out⟩, ⟨by (with_reducible repeat (first | refine blk_drewN ?_ _ | refine blk_drew ?_ | refine blk_alloc ?_ _)); exact BK192.out⟩, ⟨by repeat (first | (with_reducible first | exact HB.out | apply below_alloc | apply pw_below_drewN | apply below_drew1 | refine below_set ?_ GE186.out | refine below_set ?_ GE192.out) | exact HB.out)⟩⟩
    · replace c15 := Bool.eq_false_iff.mpr c15
      subst c15
      have H1 : (if t184 = true then (if t190 = true then (latheref02_Div.j0 k (t181 != t187) true t181 t182 t183 t184 t185 t187 t188 t189 t190 t191) else (latheref02_Div.j0 k (t181 != t187) false t181 t182 t183 t184 t185 t187 t188 t189 t190 t191)) else (if t190 = true then (latheref02_Div.j0 k (t181 != t187) false t181 t182 t183 t184 t185 t187 t188 t189 t190 t191) else (if t182 = 0 then (latheref02_Div.j0 k (t181 != t187) (t188 == 0) t181 t182 t183 t184 t185 t187 t188 t189 t190 t191) else (latheref02_Div.j0 k (t181 != t187) false t181 t182 t183 t184 t185 t187 t188 t189 t190 t191)))) = some r := by rw [if_neg (show ¬ (false = true) by decide)] at H; exact H
      clear H
      have H := H1
      clear H1
      by_cases c20 : t184 = true
      · subst c20
        have H1 : (if t190 = true then (latheref02_Div.j0 k (t181 != t187) true t181 t182 t183 true t185 t187 t188 t189 t190 t191) else (latheref02_Div.j0 k (t181 != t187) false t181 t182 t183 true t185 t187 t188 t189 t190 t191)) = some r := by rw [if_pos rfl] at H; exact H
        clear H
        have H := H1
        clear H1
        by_cases c21 : t190 = true
        · subst c21
          have H1 : (latheref02_Div.j0 k (t181 != t187) true t181 t182 t183 true t185 t187 t188 t189 true t191) = some r := by rw [if_pos rfl] at H; exact H
          clear H
          have H := H1
          clear H1
          have H' := Aside0.mk H
          clear H
          have hnb22 := NB186_192.out
          have hnc22 := NB192_186.out
          have hcz23_0 : w10.cell? ⟨gb186, 0, none⟩ = some (.bool t181) := (blk_cell BK186.out 0).trans rfl
          have hcz23_1 : w10.cell? ⟨gb186, 1, none⟩ = some (.int .u64 t182) := (blk_cell BK186.out 1).trans rfl
          have hcz23_2 : w10.cell? ⟨gb186, 2, none⟩ = some (.int .i64 t183) := (blk_cell BK186.out 2).trans rfl
          have hcz23_3 : w10.cell? ⟨gb186, 3, none⟩ = some (.bool true) := (blk_cell BK186.out 3).trans rfl
          have hcz23_4 : w10.cell? ⟨gb186, 4, none⟩ = some (.bool t185) := (blk_cell BK186.out 4).trans rfl
          have hfz23_0 := blk_frozen BK186.out 0
          have hfz23_1 := blk_frozen BK186.out 1
          have hfz23_2 := blk_frozen BK186.out 2
          have hfz23_3 := blk_frozen BK186.out 3
          have hfz23_4 := blk_frozen BK186.out 4
          have hcz24_0 : w10.cell? ⟨gb192, 0, none⟩ = some (.bool false) := (blk_cell BK192.out 0).trans rfl
          have hcz24_1 : w10.cell? ⟨gb192, 1, none⟩ = some (.int .u64 0) := (blk_cell BK192.out 1).trans rfl
          have hcz24_2 : w10.cell? ⟨gb192, 2, none⟩ = some (.int .i64 0) := (blk_cell BK192.out 2).trans rfl
          have hcz24_3 : w10.cell? ⟨gb192, 3, none⟩ = some (.bool false) := (blk_cell BK192.out 3).trans rfl
          have hcz24_4 : w10.cell? ⟨gb192, 4, none⟩ = some (.bool false) := (blk_cell BK192.out 4).trans rfl
          have hfz24_0 := blk_frozen BK192.out 0
          have hfz24_1 := blk_frozen BK192.out 1
          have hfz24_2 := blk_frozen BK192.out 2
          have hfz24_3 := blk_frozen BK192.out 3
          have hfz24_4 := blk_frozen BK192.out 4
          go_wp2_with (first | ((with_reducible refine gate_callee (f := 120) rfl ?_); refine goesL_ (some 23) rfl rfl Try.func120 (by kernel_rfl) rfl #[.agg #[.bool t181, .int .u64 t182, .int .i64 t183, .bool true, .bool t185], .agg #[.bool t187, .int .u64 t188, .int .i64 t189, .bool true, .bool t191]] rfl (by (try simp only [List.map_toArray, List.map_cons, List.map_nil]); first | done | rfl | (simp only [List.length_drop, List.length_take]; rfl)) ?_; (with_reducible refine (latheref02_nan.calls t181 t182 t183 true t185 t187 t188 t189 true t191 false _ A14.out).mono ?_); clear A14; rintro e w25 ⟨rfl, hb⟩; refine ⟨_, rfl, ?_⟩; have n0_ := Aside0.mk (blk_below (g := gb186) (o := .cells #[.bool t181, .int .u64 t182, .int .i64 t183, .bool true, .bool t185] 129 (0, 0)) (by (with_reducible repeat (first | refine blk_drewN ?_ _ | refine blk_drew ?_ | refine blk_alloc ?_ _)); refine blk_far ?_ NB186_192.out _; (with_reducible repeat (first | refine blk_drewN ?_ _ | refine blk_drew ?_ | refine blk_alloc ?_ _)); refine blk_far ?_ NB186_192.out _; (with_reducible repeat (first | refine blk_drewN ?_ _ | refine blk_drew ?_ | refine blk_alloc ?_ _)); refine blk_far ?_ NB186_192.out _; (with_reducible repeat (first | refine blk_drewN ?_ _ | refine blk_drew ?_ | refine blk_alloc ?_ _)); refine blk_far ?_ NB186_192.out _; (with_reducible repeat (first | refine blk_drewN ?_ _ | refine blk_drew ?_ | refine blk_alloc ?_ _)); refine blk_far ?_ NB186_192.out _; (with_reducible repeat (first | refine blk_drewN ?_ _ | refine blk_drew ?_ | refine blk_alloc ?_ _)); exact BK186.out) hb); have n1_ := Aside0.mk (blk_below (g := gb192) (o := .cells #[.bool t187, .int .u64 t188, .int .i64 t189, .bool true, .bool t191] 129 (0, 0)) (by (with_reducible repeat (first | refine blk_drewN ?_ _ | refine blk_drew ?_ | refine blk_alloc ?_ _)); refine blk_put (cs := #[.bool t187, .int .u64 t188, .int .i64 t189, .bool true, .bool false]) ?_ 4 _ rfl; (with_reducible repeat (first | refine blk_drewN ?_ _ | refine blk_drew ?_ | refine blk_alloc ?_ _)); refine blk_put (cs := #[.bool t187, .int .u64 t188, .int .i64 t189, .bool false, .bool false]) ?_ 3 _ rfl; (with_reducible repeat (first | refine blk_drewN ?_ _ | refine blk_drew ?_ | refine blk_alloc ?_ _)); refine blk_put (cs := #[.bool t187, .int .u64 t188, .int .i64 0, .bool false, .bool false]) ?_ 2 _ rfl; (with_reducible repeat (first | refine blk_drewN ?_ _ | refine blk_drew ?_ | refine blk_alloc ?_ _)); refine blk_put (cs := #[.bool t187, .int .u64 0, .int .i64 0, .bool false, .bool false]) ?_ 1 _ rfl; (with_reducible repeat (first | refine blk_drewN ?_ _ | refine blk_drew ?_ | refine blk_alloc ?_ _)); refine blk_put (cs := #[.bool false, .int .u64 0, .int .i64 0, .bool false, .bool false]) ?_ 0 _ rfl; (with_reducible repeat (first | refine blk_drewN ?_ _ | refine blk_drew ?_ | refine blk_alloc ?_ _)); exact BK192.out) hb); have n2_ := Aside0.mk (below_step (by repeat (first | (with_reducible first | exact HB.out | apply below_alloc | apply pw_below_drewN | apply below_drew1 | refine below_set ?_ GE186.out | refine below_set ?_ GE192.out) | exact HB.out)) hb); clear BK186; clear BK192; clear HB; have BK186 := n0_; have BK192 := n1_; have HB := n2_; clear n0_ n1_ n2_; (try clear hb); (try clear hb2); (try clear hk); (try clear hi); have hcz26_0 : w25.cell? ⟨gb186, 0, none⟩ = some (.bool t181) := (blk_cell BK186.out 0).trans rfl; have hcz26_1 : w25.cell? ⟨gb186, 1, none⟩ = some (.int .u64 t182) := (blk_cell BK186.out 1).trans rfl; have hcz26_2 : w25.cell? ⟨gb186, 2, none⟩ = some (.int .i64 t183) := (blk_cell BK186.out 2).trans rfl; have hcz26_3 : w25.cell? ⟨gb186, 3, none⟩ = some (.bool true) := (blk_cell BK186.out 3).trans rfl; have hcz26_4 : w25.cell? ⟨gb186, 4, none⟩ = some (.bool t185) := (blk_cell BK186.out 4).trans rfl; have hfz26_0 := blk_frozen BK186.out 0; have hfz26_1 := blk_frozen BK186.out 1; have hfz26_2 := blk_frozen BK186.out 2; have hfz26_3 := blk_frozen BK186.out 3; have hfz26_4 := blk_frozen BK186.out 4; have hcz27_0 : w25.cell? ⟨gb192, 0, none⟩ = some (.bool t187) := (blk_cell BK192.out 0).trans rfl; have hcz27_1 : w25.cell? ⟨gb192, 1, none⟩ = some (.int .u64 t188) := (blk_cell BK192.out 1).trans rfl; have hcz27_2 : w25.cell? ⟨gb192, 2, none⟩ = some (.int .i64 t189) := (blk_cell BK192.out 2).trans rfl; have hcz27_3 : w25.cell? ⟨gb192, 3, none⟩ = some (.bool true) := (blk_cell BK192.out 3).trans rfl; have hcz27_4 : w25.cell? ⟨gb192, 4, none⟩ = some (.bool t191) := (blk_cell BK192.out 4).trans rfl; have hfz27_0 := blk_frozen BK192.out 0; have hfz27_1 := blk_frozen BK192.out 1; have hfz27_2 := blk_frozen BK192.out 2; have hfz27_3 := blk_frozen BK192.out 3; have hfz27_4 := blk_frozen BK192.out 4))
          go_meet
          case rel => exact ⟨_, (true), (by first | rfl | (simp; done) | (simp [*]; done)), H', ⟨by first | omega | exact Nat.le_refl _⟩, ⟨by (with_reducible repeat (first | refine blk_drewN ?_ _ | refine blk_drew ?_ | refine blk_alloc ?_ _)); exact BK186.out⟩, ⟨by (with_reducible repeat (first | refine blk_drewN ?_ _ | refine blk_drew ?_ | refine blk_alloc ?_ _)); exact BK192.out⟩, ⟨by repeat (first | (with_reducible first | exact HB.out | apply below_alloc | apply pw_below_drewN | apply below_drew1 | refine below_set ?_ GE186.out | refine below_set ?_ GE192.out) | exact HB.out)⟩⟩
        · replace c21 := Bool.eq_false_iff.mpr c21
          subst c21
          have H1 : (latheref02_Div.j0 k (t181 != t187) false t181 t182 t183 true t185 t187 t188 t189 false t191) = some r := by rw [if_neg (show ¬ (false = true) by decide)] at H; exact H
          clear H
          have H := H1
          clear H1
          have H' := Aside0.mk H
          clear H
          have hnb28 := NB186_192.out
          have hnc28 := NB192_186.out
          have hcz29_0 : w10.cell? ⟨gb186, 0, none⟩ = some (.bool t181) := (blk_cell BK186.out 0).trans rfl
          have hcz29_1 : w10.cell? ⟨gb186, 1, none⟩ = some (.int .u64 t182) := (blk_cell BK186.out 1).trans rfl
          have hcz29_2 : w10.cell? ⟨gb186, 2, none⟩ = some (.int .i64 t183) := (blk_cell BK186.out 2).trans rfl
          have hcz29_3 : w10.cell? ⟨gb186, 3, none⟩ = some (.bool true) := (blk_cell BK186.out 3).trans rfl
          have hcz29_4 : w10.cell? ⟨gb186, 4, none⟩ = some (.bool t185) := (blk_cell BK186.out 4).trans rfl
          have hfz29_0 := blk_frozen BK186.out 0
          have hfz29_1 := blk_frozen BK186.out 1
          have hfz29_2 := blk_frozen BK186.out 2
          have hfz29_3 := blk_frozen BK186.out 3
          have hfz29_4 := blk_frozen BK186.out 4
          have hcz30_0 : w10.cell? ⟨gb192, 0, none⟩ = some (.bool false) := (blk_cell BK192.out 0).trans rfl
          have hcz30_1 : w10.cell? ⟨gb192, 1, none⟩ = some (.int .u64 0) := (blk_cell BK192.out 1).trans rfl
          have hcz30_2 : w10.cell? ⟨gb192, 2, none⟩ = some (.int .i64 0) := (blk_cell BK192.out 2).trans rfl
          have hcz30_3 : w10.cell? ⟨gb192, 3, none⟩ = some (.bool false) := (blk_cell BK192.out 3).trans rfl
          have hcz30_4 : w10.cell? ⟨gb192, 4, none⟩ = some (.bool false) := (blk_cell BK192.out 4).trans rfl
          have hfz30_0 := blk_frozen BK192.out 0
          have hfz30_1 := blk_frozen BK192.out 1
          have hfz30_2 := blk_frozen BK192.out 2
          have hfz30_3 := blk_frozen BK192.out 3
          have hfz30_4 := blk_frozen BK192.out 4
          go_wp2_with (first | ((with_reducible refine gate_callee (f := 120) rfl ?_); refine goesL_ (some 23) rfl rfl Try.func120 (by kernel_rfl) rfl #[.agg #[.bool t181, .int .u64 t182, .int .i64 t183, .bool true, .bool t185], .agg #[.bool t187, .int .u64 t188, .int .i64 t189, .bool false, .bool t191]] rfl (by (try simp only [List.map_toArray, List.map_cons, List.map_nil]); first | done | rfl | (simp only [List.length_drop, List.length_take]; rfl)) ?_; (with_reducible refine (latheref02_nan.calls t181 t182 t183 true t185 t187 t188 t189 false t191 false _ A14.out).mono ?_); clear A14; rintro e w31 ⟨rfl, hb⟩; refine ⟨_, rfl, ?_⟩; have n0_ := Aside0.mk (blk_below (g := gb186) (o := .cells #[.bool t181, .int .u64 t182, .int .i64 t183, .bool true, .bool t185] 129 (0, 0)) (by (with_reducible repeat (first | refine blk_drewN ?_ _ | refine blk_drew ?_ | refine blk_alloc ?_ _)); refine blk_far ?_ NB186_192.out _; (with_reducible repeat (first | refine blk_drewN ?_ _ | refine blk_drew ?_ | refine blk_alloc ?_ _)); refine blk_far ?_ NB186_192.out _; (with_reducible repeat (first | refine blk_drewN ?_ _ | refine blk_drew ?_ | refine blk_alloc ?_ _)); refine blk_far ?_ NB186_192.out _; (with_reducible repeat (first | refine blk_drewN ?_ _ | refine blk_drew ?_ | refine blk_alloc ?_ _)); refine blk_far ?_ NB186_192.out _; (with_reducible repeat (first | refine blk_drewN ?_ _ | refine blk_drew ?_ | refine blk_alloc ?_ _)); refine blk_far ?_ NB186_192.out _; (with_reducible repeat (first | refine blk_drewN ?_ _ | refine blk_drew ?_ | refine blk_alloc ?_ _)); exact BK186.out) hb); have n1_ := Aside0.mk (blk_below (g := gb192) (o := .cells #[.bool t187, .int .u64 t188, .int .i64 t189, .bool false, .bool t191] 129 (0, 0)) (by (with_reducible repeat (first | refine blk_drewN ?_ _ | refine blk_drew ?_ | refine blk_alloc ?_ _)); refine blk_put (cs := #[.bool t187, .int .u64 t188, .int .i64 t189, .bool false, .bool false]) ?_ 4 _ rfl; (with_reducible repeat (first | refine blk_drewN ?_ _ | refine blk_drew ?_ | refine blk_alloc ?_ _)); refine blk_put (cs := #[.bool t187, .int .u64 t188, .int .i64 t189, .bool false, .bool false]) ?_ 3 _ rfl; (with_reducible repeat (first | refine blk_drewN ?_ _ | refine blk_drew ?_ | refine blk_alloc ?_ _)); refine blk_put (cs := #[.bool t187, .int .u64 t188, .int .i64 0, .bool false, .bool false]) ?_ 2 _ rfl; (with_reducible repeat (first | refine blk_drewN ?_ _ | refine blk_drew ?_ | refine blk_alloc ?_ _)); refine blk_put (cs := #[.bool t187, .int .u64 0, .int .i64 0, .bool false, .bool false]) ?_ 1 _ rfl; (with_reducible repeat (first | refine blk_drewN ?_ _ | refine blk_drew ?_ | refine blk_alloc ?_ _)); refine blk_put (cs := #[.bool false, .int .u64 0, .int .i64 0, .bool false, .bool false]) ?_ 0 _ rfl; (with_reducible repeat (first | refine blk_drewN ?_ _ | refine blk_drew ?_ | refine blk_alloc ?_ _)); exact BK192.out) hb); have n2_ := Aside0.mk (below_step (by repeat (first | (with_reducible first | exact HB.out | apply below_alloc | apply pw_below_drewN | apply below_drew1 | refine below_set ?_ GE186.out | refine below_set ?_ GE192.out) | exact HB.out)) hb); clear BK186; clear BK192; clear HB; have BK186 := n0_; have BK192 := n1_; have HB := n2_; clear n0_ n1_ n2_; (try clear hb); (try clear hb2); (try clear hk); (try clear hi); have hcz32_0 : w31.cell? ⟨gb186, 0, none⟩ = some (.bool t181) := (blk_cell BK186.out 0).trans rfl; have hcz32_1 : w31.cell? ⟨gb186, 1, none⟩ = some (.int .u64 t182) := (blk_cell BK186.out 1).trans rfl; have hcz32_2 : w31.cell? ⟨gb186, 2, none⟩ = some (.int .i64 t183) := (blk_cell BK186.out 2).trans rfl; have hcz32_3 : w31.cell? ⟨gb186, 3, none⟩ = some (.bool true) := (blk_cell BK186.out 3).trans rfl; have hcz32_4 : w31.cell? ⟨gb186, 4, none⟩ = some (.bool t185) := (blk_cell BK186.out 4).trans rfl; have hfz32_0 := blk_frozen BK186.out 0; have hfz32_1 := blk_frozen BK186.out 1; have hfz32_2 := blk_frozen BK186.out 2; have hfz32_3 := blk_frozen BK186.out 3; have hfz32_4 := blk_frozen BK186.out 4; have hcz33_0 : w31.cell? ⟨gb192, 0, none⟩ = some (.bool t187) := (blk_cell BK192.out 0).trans rfl; have hcz33_1 : w31.cell? ⟨gb192, 1, none⟩ = some (.int .u64 t188) := (blk_cell BK192.out 1).trans rfl; have hcz33_2 : w31.cell? ⟨gb192, 2, none⟩ = some (.int .i64 t189) := (blk_cell BK192.out 2).trans rfl; have hcz33_3 : w31.cell? ⟨gb192, 3, none⟩ = some (.bool false) := (blk_cell BK192.out 3).trans rfl; have hcz33_4 : w31.cell? ⟨gb192, 4, none⟩ = some (.bool t191) := (blk_cell BK192.out 4).trans rfl; have hfz33_0 := blk_frozen BK192.out 0; have hfz33_1 := blk_frozen BK192.out 1; have hfz33_2 := blk_frozen BK192.out 2; have hfz33_3 := blk_frozen BK192.out 3; have hfz33_4 := blk_frozen BK192.out 4))
          go_meet
          case rel => exact ⟨_, (false), (by first | rfl | (simp; done) | (simp [*]; done)), H', ⟨by first | omega | exact Nat.le_refl _⟩, ⟨by (with_reducible repeat (first | refine blk_drewN ?_ _ | refine blk_drew ?_ | refine blk_alloc ?_ _)); exact BK186.out⟩, ⟨by (with_reducible repeat (first | refine blk_drewN ?_ _ | refine blk_drew ?_ | refine blk_alloc ?_ _)); exact BK192.out⟩, ⟨by repeat (first | (with_reducible first | exact HB.out | apply below_alloc | apply pw_below_drewN | apply below_drew1 | refine below_set ?_ GE186.out | refine below_set ?_ GE192.out) | exact HB.out)⟩⟩
      · replace c20 := Bool.eq_false_iff.mpr c20
        subst c20
        have H1 : (if t190 = true then (latheref02_Div.j0 k (t181 != t187) false t181 t182 t183 false t185 t187 t188 t189 t190 t191) else (if t182 = 0 then (latheref02_Div.j0 k (t181 != t187) (t188 == 0) t181 t182 t183 false t185 t187 t188 t189 t190 t191) else (latheref02_Div.j0 k (t181 != t187) false t181 t182 t183 false t185 t187 t188 t189 t190 t191))) = some r := by rw [if_neg (show ¬ (false = true) by decide)] at H; exact H
        clear H
        have H := H1
        clear H1
        by_cases c34 : t190 = true
        · subst c34
          have H1 : (latheref02_Div.j0 k (t181 != t187) false t181 t182 t183 false t185 t187 t188 t189 true t191) = some r := by rw [if_pos rfl] at H; exact H
          clear H
          have H := H1
          clear H1
          have H' := Aside0.mk H
          clear H
          have hnb35 := NB186_192.out
          have hnc35 := NB192_186.out
          have hcz36_0 : w10.cell? ⟨gb186, 0, none⟩ = some (.bool t181) := (blk_cell BK186.out 0).trans rfl
          have hcz36_1 : w10.cell? ⟨gb186, 1, none⟩ = some (.int .u64 t182) := (blk_cell BK186.out 1).trans rfl
          have hcz36_2 : w10.cell? ⟨gb186, 2, none⟩ = some (.int .i64 t183) := (blk_cell BK186.out 2).trans rfl
          have hcz36_3 : w10.cell? ⟨gb186, 3, none⟩ = some (.bool false) := (blk_cell BK186.out 3).trans rfl
          have hcz36_4 : w10.cell? ⟨gb186, 4, none⟩ = some (.bool t185) := (blk_cell BK186.out 4).trans rfl
          have hfz36_0 := blk_frozen BK186.out 0
          have hfz36_1 := blk_frozen BK186.out 1
          have hfz36_2 := blk_frozen BK186.out 2
          have hfz36_3 := blk_frozen BK186.out 3
          have hfz36_4 := blk_frozen BK186.out 4
          have hcz37_0 : w10.cell? ⟨gb192, 0, none⟩ = some (.bool false) := (blk_cell BK192.out 0).trans rfl
          have hcz37_1 : w10.cell? ⟨gb192, 1, none⟩ = some (.int .u64 0) := (blk_cell BK192.out 1).trans rfl
          have hcz37_2 : w10.cell? ⟨gb192, 2, none⟩ = some (.int .i64 0) := (blk_cell BK192.out 2).trans rfl
          have hcz37_3 : w10.cell? ⟨gb192, 3, none⟩ = some (.bool false) := (blk_cell BK192.out 3).trans rfl
          have hcz37_4 : w10.cell? ⟨gb192, 4, none⟩ = some (.bool false) := (blk_cell BK192.out 4).trans rfl
          have hfz37_0 := blk_frozen BK192.out 0
          have hfz37_1 := blk_frozen BK192.out 1
          have hfz37_2 := blk_frozen BK192.out 2
          have hfz37_3 := blk_frozen BK192.out 3
          have hfz37_4 := blk_frozen BK192.out 4
          go_wp2_with (first | ((with_reducible refine gate_callee (f := 120) rfl ?_); refine goesL_ (some 23) rfl rfl Try.func120 (by kernel_rfl) rfl #[.agg #[.bool t181, .int .u64 t182, .int .i64 t183, .bool false, .bool t185], .agg #[.bool t187, .int .u64 t188, .int .i64 t189, .bool true, .bool t191]] rfl (by (try simp only [List.map_toArray, List.map_cons, List.map_nil]); first | done | rfl | (simp only [List.length_drop, List.length_take]; rfl)) ?_; (with_reducible refine (latheref02_nan.calls t181 t182 t183 false t185 t187 t188 t189 true t191 false _ A14.out).mono ?_); clear A14; rintro e w38 ⟨rfl, hb⟩; refine ⟨_, rfl, ?_⟩; have n0_ := Aside0.mk (blk_below (g := gb186) (o := .cells #[.bool t181, .int .u64 t182, .int .i64 t183, .bool false, .bool t185] 129 (0, 0)) (by (with_reducible repeat (first | refine blk_drewN ?_ _ | refine blk_drew ?_ | refine blk_alloc ?_ _)); refine blk_far ?_ NB186_192.out _; (with_reducible repeat (first | refine blk_drewN ?_ _ | refine blk_drew ?_ | refine blk_alloc ?_ _)); refine blk_far ?_ NB186_192.out _; (with_reducible repeat (first | refine blk_drewN ?_ _ | refine blk_drew ?_ | refine blk_alloc ?_ _)); refine blk_far ?_ NB186_192.out _; (with_reducible repeat (first | refine blk_drewN ?_ _ | refine blk_drew ?_ | refine blk_alloc ?_ _)); refine blk_far ?_ NB186_192.out _; (with_reducible repeat (first | refine blk_drewN ?_ _ | refine blk_drew ?_ | refine blk_alloc ?_ _)); refine blk_far ?_ NB186_192.out _; (with_reducible repeat (first | refine blk_drewN ?_ _ | refine blk_drew ?_ | refine blk_alloc ?_ _)); exact BK186.out) hb); have n1_ := Aside0.mk (blk_below (g := gb192) (o := .cells #[.bool t187, .int .u64 t188, .int .i64 t189, .bool true, .bool t191] 129 (0, 0)) (by (with_reducible repeat (first | refine blk_drewN ?_ _ | refine blk_drew ?_ | refine blk_alloc ?_ _)); refine blk_put (cs := #[.bool t187, .int .u64 t188, .int .i64 t189, .bool true, .bool false]) ?_ 4 _ rfl; (with_reducible repeat (first | refine blk_drewN ?_ _ | refine blk_drew ?_ | refine blk_alloc ?_ _)); refine blk_put (cs := #[.bool t187, .int .u64 t188, .int .i64 t189, .bool false, .bool false]) ?_ 3 _ rfl; (with_reducible repeat (first | refine blk_drewN ?_ _ | refine blk_drew ?_ | refine blk_alloc ?_ _)); refine blk_put (cs := #[.bool t187, .int .u64 t188, .int .i64 0, .bool false, .bool false]) ?_ 2 _ rfl; (with_reducible repeat (first | refine blk_drewN ?_ _ | refine blk_drew ?_ | refine blk_alloc ?_ _)); refine blk_put (cs := #[.bool t187, .int .u64 0, .int .i64 0, .bool false, .bool false]) ?_ 1 _ rfl; (with_reducible repeat (first | refine blk_drewN ?_ _ | refine blk_drew ?_ | refine blk_alloc ?_ _)); refine blk_put (cs := #[.bool false, .int .u64 0, .int .i64 0, .bool false, .bool false]) ?_ 0 _ rfl; (with_reducible repeat (first | refine blk_drewN ?_ _ | refine blk_drew ?_ | refine blk_alloc ?_ _)); exact BK192.out) hb); have n2_ := Aside0.mk (below_step (by repeat (first | (with_reducible first | exact HB.out | apply below_alloc | apply pw_below_drewN | apply below_drew1 | refine below_set ?_ GE186.out | refine below_set ?_ GE192.out) | exact HB.out)) hb); clear BK186; clear BK192; clear HB; have BK186 := n0_; have BK192 := n1_; have HB := n2_; clear n0_ n1_ n2_; (try clear hb); (try clear hb2); (try clear hk); (try clear hi); have hcz39_0 : w38.cell? ⟨gb186, 0, none⟩ = some (.bool t181) := (blk_cell BK186.out 0).trans rfl; have hcz39_1 : w38.cell? ⟨gb186, 1, none⟩ = some (.int .u64 t182) := (blk_cell BK186.out 1).trans rfl; have hcz39_2 : w38.cell? ⟨gb186, 2, none⟩ = some (.int .i64 t183) := (blk_cell BK186.out 2).trans rfl; have hcz39_3 : w38.cell? ⟨gb186, 3, none⟩ = some (.bool false) := (blk_cell BK186.out 3).trans rfl; have hcz39_4 : w38.cell? ⟨gb186, 4, none⟩ = some (.bool t185) := (blk_cell BK186.out 4).trans rfl; have hfz39_0 := blk_frozen BK186.out 0; have hfz39_1 := blk_frozen BK186.out 1; have hfz39_2 := blk_frozen BK186.out 2; have hfz39_3 := blk_frozen BK186.out 3; have hfz39_4 := blk_frozen BK186.out 4; have hcz40_0 : w38.cell? ⟨gb192, 0, none⟩ = some (.bool t187) := (blk_cell BK192.out 0).trans rfl; have hcz40_1 : w38.cell? ⟨gb192, 1, none⟩ = some (.int .u64 t188) := (blk_cell BK192.out 1).trans rfl; have hcz40_2 : w38.cell? ⟨gb192, 2, none⟩ = some (.int .i64 t189) := (blk_cell BK192.out 2).trans rfl; have hcz40_3 : w38.cell? ⟨gb192, 3, none⟩ = some (.bool true) := (blk_cell BK192.out 3).trans rfl; have hcz40_4 : w38.cell? ⟨gb192, 4, none⟩ = some (.bool t191) := (blk_cell BK192.out 4).trans rfl; have hfz40_0 := blk_frozen BK192.out 0; have hfz40_1 := blk_frozen BK192.out 1; have hfz40_2 := blk_frozen BK192.out 2; have hfz40_3 := blk_frozen BK192.out 3; have hfz40_4 := blk_frozen BK192.out 4))
          go_meet
          case rel => exact ⟨_, (false), (by first | rfl | (simp; done) | (simp [*]; done)), H', ⟨by first | omega | exact Nat.le_refl _⟩, ⟨by (with_reducible repeat (first | refine blk_drewN ?_ _ | refine blk_drew ?_ | refine blk_alloc ?_ _)); exact BK186.out⟩, ⟨by (with_reducible repeat (first | refine blk_drewN ?_ _ | refine blk_drew ?_ | refine blk_alloc ?_ _)); exact BK192.out⟩, ⟨by repeat (first | (with_reducible first | exact HB.out | apply below_alloc | apply pw_below_drewN | apply below_drew1 | refine below_set ?_ GE186.out | refine below_set ?_ GE192.out) | exact HB.out)⟩⟩
        · replace c34 := Bool.eq_false_iff.mpr c34
          subst c34
          have H1 : (if t182 = 0 then (latheref02_Div.j0 k (t181 != t187) (t188 == 0) t181 t182 t183 false t185 t187 t188 t189 false t191) else (latheref02_Div.j0 k (t181 != t187) false t181 t182 t183 false t185 t187 t188 t189 false t191)) = some r := by rw [if_neg (show ¬ (false = true) by decide)] at H; exact H
          clear H
          have H := H1
          clear H1
          by_cases c41 : t182 = 0
          · rw [if_pos c41] at H
            have c41b0 : (t182 == 0) = true := beq_iff_eq.mpr c41
            have c41b1 : (t182 != 0) = false := bne_eq_false_iff_eq.mpr c41
            clear c41
            (first | rw [c41b0] | (simp only [i64_w, i32_w]; rw [c41b0]) | skip)
            have H' := Aside0.mk H
            clear H
            have hnb42 := NB186_192.out
            have hnc42 := NB192_186.out
            have hcz43_0 : w10.cell? ⟨gb186, 0, none⟩ = some (.bool t181) := (blk_cell BK186.out 0).trans rfl
            have hcz43_1 : w10.cell? ⟨gb186, 1, none⟩ = some (.int .u64 t182) := (blk_cell BK186.out 1).trans rfl
            have hcz43_2 : w10.cell? ⟨gb186, 2, none⟩ = some (.int .i64 t183) := (blk_cell BK186.out 2).trans rfl
            have hcz43_3 : w10.cell? ⟨gb186, 3, none⟩ = some (.bool false) := (blk_cell BK186.out 3).trans rfl
            have hcz43_4 : w10.cell? ⟨gb186, 4, none⟩ = some (.bool t185) := (blk_cell BK186.out 4).trans rfl
            have hfz43_0 := blk_frozen BK186.out 0
            have hfz43_1 := blk_frozen BK186.out 1
            have hfz43_2 := blk_frozen BK186.out 2
            have hfz43_3 := blk_frozen BK186.out 3
            have hfz43_4 := blk_frozen BK186.out 4
            have hcz44_0 : w10.cell? ⟨gb192, 0, none⟩ = some (.bool false) := (blk_cell BK192.out 0).trans rfl
            have hcz44_1 : w10.cell? ⟨gb192, 1, none⟩ = some (.int .u64 0) := (blk_cell BK192.out 1).trans rfl
            have hcz44_2 : w10.cell? ⟨gb192, 2, none⟩ = some (.int .i64 0) := (blk_cell BK192.out 2).trans rfl
            have hcz44_3 : w10.cell? ⟨gb192, 3, none⟩ = some (.bool false) := (blk_cell BK192.out 3).trans rfl
            have hcz44_4 : w10.cell? ⟨gb192, 4, none⟩ = some (.bool false) := (blk_cell BK192.out 4).trans rfl
            have hfz44_0 := blk_frozen BK192.out 0
            have hfz44_1 := blk_frozen BK192.out 1
            have hfz44_2 := blk_frozen BK192.out 2
            have hfz44_3 := blk_frozen BK192.out 3
            have hfz44_4 := blk_frozen BK192.out 4
            go_wp2_with (first | ((with_reducible refine gate_callee (f := 120) rfl ?_); refine goesL_ (some 23) rfl rfl Try.func120 (by kernel_rfl) rfl #[.agg #[.bool t181, .int .u64 t182, .int .i64 t183, .bool false, .bool t185], .agg #[.bool t187, .int .u64 t188, .int .i64 t189, .bool false, .bool t191]] rfl (by (try simp only [List.map_toArray, List.map_cons, List.map_nil]); first | done | rfl | (simp only [List.length_drop, List.length_take]; rfl)) ?_; (with_reducible refine (latheref02_nan.calls t181 t182 t183 false t185 t187 t188 t189 false t191 false _ A14.out).mono ?_); clear A14; rintro e w45 ⟨rfl, hb⟩; refine ⟨_, rfl, ?_⟩; have n0_ := Aside0.mk (blk_below (g := gb186) (o := .cells #[.bool t181, .int .u64 t182, .int .i64 t183, .bool false, .bool t185] 129 (0, 0)) (by (with_reducible repeat (first | refine blk_drewN ?_ _ | refine blk_drew ?_ | refine blk_alloc ?_ _)); refine blk_far ?_ NB186_192.out _; (with_reducible repeat (first | refine blk_drewN ?_ _ | refine blk_drew ?_ | refine blk_alloc ?_ _)); refine blk_far ?_ NB186_192.out _; (with_reducible repeat (first | refine blk_drewN ?_ _ | refine blk_drew ?_ | refine blk_alloc ?_ _)); refine blk_far ?_ NB186_192.out _; (with_reducible repeat (first | refine blk_drewN ?_ _ | refine blk_drew ?_ | refine blk_alloc ?_ _)); refine blk_far ?_ NB186_192.out _; (with_reducible repeat (first | refine blk_drewN ?_ _ | refine blk_drew ?_ | refine blk_alloc ?_ _)); refine blk_far ?_ NB186_192.out _; (with_reducible repeat (first | refine blk_drewN ?_ _ | refine blk_drew ?_ | refine blk_alloc ?_ _)); exact BK186.out) hb); have n1_ := Aside0.mk (blk_below (g := gb192) (o := .cells #[.bool t187, .int .u64 t188, .int .i64 t189, .bool false, .bool t191] 129 (0, 0)) (by (with_reducible repeat (first | refine blk_drewN ?_ _ | refine blk_drew ?_ | refine blk_alloc ?_ _)); refine blk_put (cs := #[.bool t187, .int .u64 t188, .int .i64 t189, .bool false, .bool false]) ?_ 4 _ rfl; (with_reducible repeat (first | refine blk_drewN ?_ _ | refine blk_drew ?_ | refine blk_alloc ?_ _)); refine blk_put (cs := #[.bool t187, .int .u64 t188, .int .i64 t189, .bool false, .bool false]) ?_ 3 _ rfl; (with_reducible repeat (first | refine blk_drewN ?_ _ | refine blk_drew ?_ | refine blk_alloc ?_ _)); refine blk_put (cs := #[.bool t187, .int .u64 t188, .int .i64 0, .bool false, .bool false]) ?_ 2 _ rfl; (with_reducible repeat (first | refine blk_drewN ?_ _ | refine blk_drew ?_ | refine blk_alloc ?_ _)); refine blk_put (cs := #[.bool t187, .int .u64 0, .int .i64 0, .bool false, .bool false]) ?_ 1 _ rfl; (with_reducible repeat (first | refine blk_drewN ?_ _ | refine blk_drew ?_ | refine blk_alloc ?_ _)); refine blk_put (cs := #[.bool false, .int .u64 0, .int .i64 0, .bool false, .bool false]) ?_ 0 _ rfl; (with_reducible repeat (first | refine blk_drewN ?_ _ | refine blk_drew ?_ | refine blk_alloc ?_ _)); exact BK192.out) hb); have n2_ := Aside0.mk (below_step (by repeat (first | (with_reducible first | exact HB.out | apply below_alloc | apply pw_below_drewN | apply below_drew1 | refine below_set ?_ GE186.out | refine below_set ?_ GE192.out) | exact HB.out)) hb); clear BK186; clear BK192; clear HB; have BK186 := n0_; have BK192 := n1_; have HB := n2_; clear n0_ n1_ n2_; (try clear hb); (try clear hb2); (try clear hk); (try clear hi); have hcz46_0 : w45.cell? ⟨gb186, 0, none⟩ = some (.bool t181) := (blk_cell BK186.out 0).trans rfl; have hcz46_1 : w45.cell? ⟨gb186, 1, none⟩ = some (.int .u64 t182) := (blk_cell BK186.out 1).trans rfl; have hcz46_2 : w45.cell? ⟨gb186, 2, none⟩ = some (.int .i64 t183) := (blk_cell BK186.out 2).trans rfl; have hcz46_3 : w45.cell? ⟨gb186, 3, none⟩ = some (.bool false) := (blk_cell BK186.out 3).trans rfl; have hcz46_4 : w45.cell? ⟨gb186, 4, none⟩ = some (.bool t185) := (blk_cell BK186.out 4).trans rfl; have hfz46_0 := blk_frozen BK186.out 0; have hfz46_1 := blk_frozen BK186.out 1; have hfz46_2 := blk_frozen BK186.out 2; have hfz46_3 := blk_frozen BK186.out 3; have hfz46_4 := blk_frozen BK186.out 4; have hcz47_0 : w45.cell? ⟨gb192, 0, none⟩ = some (.bool t187) := (blk_cell BK192.out 0).trans rfl; have hcz47_1 : w45.cell? ⟨gb192, 1, none⟩ = some (.int .u64 t188) := (blk_cell BK192.out 1).trans rfl; have hcz47_2 : w45.cell? ⟨gb192, 2, none⟩ = some (.int .i64 t189) := (blk_cell BK192.out 2).trans rfl; have hcz47_3 : w45.cell? ⟨gb192, 3, none⟩ = some (.bool false) := (blk_cell BK192.out 3).trans rfl; have hcz47_4 : w45.cell? ⟨gb192, 4, none⟩ = some (.bool t191) := (blk_cell BK192.out 4).trans rfl; have hfz47_0 := blk_frozen BK192.out 0; have hfz47_1 := blk_frozen BK192.out 1; have hfz47_2 := blk_frozen BK192.out 2; have hfz47_3 := blk_frozen BK192.out 3; have hfz47_4 := blk_frozen BK192.out 4))
            go_meet
            case rel => exact ⟨_, ((t188 == 0)), (by first | rfl | (simp; done) | (simp [*]; done)), H', ⟨by first | omega | exact Nat.le_refl _⟩, ⟨by (with_reducible repeat (first | refine blk_drewN ?_ _ | refine blk_drew ?_ | refine blk_alloc ?_ _)); exact BK186.out⟩, ⟨by (with_reducible repeat (first | refine blk_drewN ?_ _ | refine blk_drew ?_ | refine blk_alloc ?_ _)); exact BK192.out⟩, ⟨by repeat (first | (with_reducible first | exact HB.out | apply below_alloc | apply pw_below_drewN | apply below_drew1 | refine below_set ?_ GE186.out | refine below_set ?_ GE192.out) | exact HB.out)⟩⟩
          · rw [if_neg c41] at H
            have c41b0 : (t182 == 0) = false := beq_eq_false_iff_ne.mpr c41
            have c41b1 : (t182 != 0) = true := bne_iff_ne.mpr c41
            (first | rw [c41b0] | (simp only [i64_w, i32_w]; rw [c41b0]) | skip)
            have H' := Aside0.mk H
            clear H
            have hnb48 := NB186_192.out
            have hnc48 := NB192_186.out
            have hcz49_0 : w10.cell? ⟨gb186, 0, none⟩ = some (.bool t181) := (blk_cell BK186.out 0).trans rfl
            have hcz49_1 : w10.cell? ⟨gb186, 1, none⟩ = some (.int .u64 t182) := (blk_cell BK186.out 1).trans rfl
            have hcz49_2 : w10.cell? ⟨gb186, 2, none⟩ = some (.int .i64 t183) := (blk_cell BK186.out 2).trans rfl
            have hcz49_3 : w10.cell? ⟨gb186, 3, none⟩ = some (.bool false) := (blk_cell BK186.out 3).trans rfl
            have hcz49_4 : w10.cell? ⟨gb186, 4, none⟩ = some (.bool t185) := (blk_cell BK186.out 4).trans rfl
            have hfz49_0 := blk_frozen BK186.out 0
            have hfz49_1 := blk_frozen BK186.out 1
            have hfz49_2 := blk_frozen BK186.out 2
            have hfz49_3 := blk_frozen BK186.out 3
            have hfz49_4 := blk_frozen BK186.out 4
            have hcz50_0 : w10.cell? ⟨gb192, 0, none⟩ = some (.bool false) := (blk_cell BK192.out 0).trans rfl
            have hcz50_1 : w10.cell? ⟨gb192, 1, none⟩ = some (.int .u64 0) := (blk_cell BK192.out 1).trans rfl
            have hcz50_2 : w10.cell? ⟨gb192, 2, none⟩ = some (.int .i64 0) := (blk_cell BK192.out 2).trans rfl
            have hcz50_3 : w10.cell? ⟨gb192, 3, none⟩ = some (.bool false) := (blk_cell BK192.out 3).trans rfl
            have hcz50_4 : w10.cell? ⟨gb192, 4, none⟩ = some (.bool false) := (blk_cell BK192.out 4).trans rfl
            have hfz50_0 := blk_frozen BK192.out 0
            have hfz50_1 := blk_frozen BK192.out 1
            have hfz50_2 := blk_frozen BK192.out 2
            have hfz50_3 := blk_frozen BK192.out 3
            have hfz50_4 := blk_frozen BK192.out 4
            go_wp2_with (first | ((with_reducible refine gate_callee (f := 120) rfl ?_); refine goesL_ (some 23) rfl rfl Try.func120 (by kernel_rfl) rfl #[.agg #[.bool t181, .int .u64 t182, .int .i64 t183, .bool false, .bool t185], .agg #[.bool t187, .int .u64 t188, .int .i64 t189, .bool false, .bool t191]] rfl (by (try simp only [List.map_toArray, List.map_cons, List.map_nil]); first | done | rfl | (simp only [List.length_drop, List.length_take]; rfl)) ?_; (with_reducible refine (latheref02_nan.calls t181 t182 t183 false t185 t187 t188 t189 false t191 false _ A14.out).mono ?_); clear A14; rintro e w51 ⟨rfl, hb⟩; refine ⟨_, rfl, ?_⟩; have n0_ := Aside0.mk (blk_below (g := gb186) (o := .cells #[.bool t181, .int .u64 t182, .int .i64 t183, .bool false, .bool t185] 129 (0, 0)) (by (with_reducible repeat (first | refine blk_drewN ?_ _ | refine blk_drew ?_ | refine blk_alloc ?_ _)); refine blk_far ?_ NB186_192.out _; (with_reducible repeat (first | refine blk_drewN ?_ _ | refine blk_drew ?_ | refine blk_alloc ?_ _)); refine blk_far ?_ NB186_192.out _; (with_reducible repeat (first | refine blk_drewN ?_ _ | refine blk_drew ?_ | refine blk_alloc ?_ _)); refine blk_far ?_ NB186_192.out _; (with_reducible repeat (first | refine blk_drewN ?_ _ | refine blk_drew ?_ | refine blk_alloc ?_ _)); refine blk_far ?_ NB186_192.out _; (with_reducible repeat (first | refine blk_drewN ?_ _ | refine blk_drew ?_ | refine blk_alloc ?_ _)); refine blk_far ?_ NB186_192.out _; (with_reducible repeat (first | refine blk_drewN ?_ _ | refine blk_drew ?_ | refine blk_alloc ?_ _)); exact BK186.out) hb); have n1_ := Aside0.mk (blk_below (g := gb192) (o := .cells #[.bool t187, .int .u64 t188, .int .i64 t189, .bool false, .bool t191] 129 (0, 0)) (by (with_reducible repeat (first | refine blk_drewN ?_ _ | refine blk_drew ?_ | refine blk_alloc ?_ _)); refine blk_put (cs := #[.bool t187, .int .u64 t188, .int .i64 t189, .bool false, .bool false]) ?_ 4 _ rfl; (with_reducible repeat (first | refine blk_drewN ?_ _ | refine blk_drew ?_ | refine blk_alloc ?_ _)); refine blk_put (cs := #[.bool t187, .int .u64 t188, .int .i64 t189, .bool false, .bool false]) ?_ 3 _ rfl; (with_reducible repeat (first | refine blk_drewN ?_ _ | refine blk_drew ?_ | refine blk_alloc ?_ _)); refine blk_put (cs := #[.bool t187, .int .u64 t188, .int .i64 0, .bool false, .bool false]) ?_ 2 _ rfl; (with_reducible repeat (first | refine blk_drewN ?_ _ | refine blk_drew ?_ | refine blk_alloc ?_ _)); refine blk_put (cs := #[.bool t187, .int .u64 0, .int .i64 0, .bool false, .bool false]) ?_ 1 _ rfl; (with_reducible repeat (first | refine blk_drewN ?_ _ | refine blk_drew ?_ | refine blk_alloc ?_ _)); refine blk_put (cs := #[.bool false, .int .u64 0, .int .i64 0, .bool false, .bool false]) ?_ 0 _ rfl; (with_reducible repeat (first | refine blk_drewN ?_ _ | refine blk_drew ?_ | refine blk_alloc ?_ _)); exact BK192.out) hb); have n2_ := Aside0.mk (below_step (by repeat (first | (with_reducible first | exact HB.out | apply below_alloc | apply pw_below_drewN | apply below_drew1 | refine below_set ?_ GE186.out | refine below_set ?_ GE192.out) | exact HB.out)) hb); clear BK186; clear BK192; clear HB; have BK186 := n0_; have BK192 := n1_; have HB := n2_; clear n0_ n1_ n2_; (try clear hb); (try clear hb2); (try clear hk); (try clear hi); have hcz52_0 : w51.cell? ⟨gb186, 0, none⟩ = some (.bool t181) := (blk_cell BK186.out 0).trans rfl; have hcz52_1 : w51.cell? ⟨gb186, 1, none⟩ = some (.int .u64 t182) := (blk_cell BK186.out 1).trans rfl; have hcz52_2 : w51.cell? ⟨gb186, 2, none⟩ = some (.int .i64 t183) := (blk_cell BK186.out 2).trans rfl; have hcz52_3 : w51.cell? ⟨gb186, 3, none⟩ = some (.bool false) := (blk_cell BK186.out 3).trans rfl; have hcz52_4 : w51.cell? ⟨gb186, 4, none⟩ = some (.bool t185) := (blk_cell BK186.out 4).trans rfl; have hfz52_0 := blk_frozen BK186.out 0; have hfz52_1 := blk_frozen BK186.out 1; have hfz52_2 := blk_frozen BK186.out 2; have hfz52_3 := blk_frozen BK186.out 3; have hfz52_4 := blk_frozen BK186.out 4; have hcz53_0 : w51.cell? ⟨gb192, 0, none⟩ = some (.bool t187) := (blk_cell BK192.out 0).trans rfl; have hcz53_1 : w51.cell? ⟨gb192, 1, none⟩ = some (.int .u64 t188) := (blk_cell BK192.out 1).trans rfl; have hcz53_2 : w51.cell? ⟨gb192, 2, none⟩ = some (.int .i64 t189) := (blk_cell BK192.out 2).trans rfl; have hcz53_3 : w51.cell? ⟨gb192, 3, none⟩ = some (.bool false) := (blk_cell BK192.out 3).trans rfl; have hcz53_4 : w51.cell? ⟨gb192, 4, none⟩ = some (.bool t191) := (blk_cell BK192.out 4).trans rfl; have hfz53_0 := blk_frozen BK192.out 0; have hfz53_1 := blk_frozen BK192.out 1; have hfz53_2 := blk_frozen BK192.out 2; have hfz53_3 := blk_frozen BK192.out 3; have hfz53_4 := blk_frozen BK192.out 4))
            go_meet
            case rel => exact ⟨_, (false), (by first | rfl | (simp; done) | (simp [*]; done)), H', ⟨by first | omega | exact Nat.le_refl _⟩, ⟨by (with_reducible repeat (first | refine blk_drewN ?_ _ | refine blk_drew ?_ | refine blk_alloc ?_ _)); exact BK186.out⟩, ⟨by (with_reducible repeat (first | refine blk_drewN ?_ _ | refine blk_drew ?_ | refine blk_alloc ?_ _)); exact BK192.out⟩, ⟨by repeat (first | (with_reducible first | exact HB.out | apply below_alloc | apply pw_below_drewN | apply below_drew1 | refine below_set ?_ GE186.out | refine below_set ?_ GE192.out) | exact HB.out)⟩⟩
  case rest =>
    clear HC5
    try clear c1
    try clear c2
    try clear p2
    try clear c3
    try clear c4
    try clear c7
    try clear c11
    try clear c12
    try clear c15
    try clear c16
    try clear c20
    try clear c21
    try clear c22
    try clear c28
    try clear c34
    try clear c35
    try clear c41
    try clear c41b0
    try clear c41b1
    try clear c42
    try clear c48
    try clear hcz12_0
    try clear hcz12_1
    try clear hcz12_2
    try clear hcz12_3
    try clear hcz12_4
    try clear hcz13_0
    try clear hcz13_1
    try clear hcz13_2
    try clear hcz13_3
    try clear hcz13_4
    try clear hcz17_0
    try clear hcz17_1
    try clear hcz17_2
    try clear hcz17_3
    try clear hcz17_4
    try clear hcz18_0
    try clear hcz18_1
    try clear hcz18_2
    try clear hcz18_3
    try clear hcz18_4
    try clear hcz23_0
    try clear hcz23_1
    try clear hcz23_2
    try clear hcz23_3
    try clear hcz23_4
    try clear hcz24_0
    try clear hcz24_1
    try clear hcz24_2
    try clear hcz24_3
    try clear hcz24_4
    try clear hcz26_0
    try clear hcz26_1
    try clear hcz26_2
    try clear hcz26_3
    try clear hcz26_4
    try clear hcz27_0
    try clear hcz27_1
    try clear hcz27_2
    try clear hcz27_3
    try clear hcz27_4
    try clear hcz29_0
    try clear hcz29_1
    try clear hcz29_2
    try clear hcz29_3
    try clear hcz29_4
    try clear hcz30_0
    try clear hcz30_1
    try clear hcz30_2
    try clear hcz30_3
    try clear hcz30_4
    try clear hcz32_0
    try clear hcz32_1
    try clear hcz32_2
    try clear hcz32_3
    try clear hcz32_4
    try clear hcz33_0
    try clear hcz33_1
    try clear hcz33_2
    try clear hcz33_3
    try clear hcz33_4
    try clear hcz36_0
    try clear hcz36_1
    try clear hcz36_2
    try clear hcz36_3
    try clear hcz36_4
    try clear hcz37_0
    try clear hcz37_1
    try clear hcz37_2
    try clear hcz37_3
    try clear hcz37_4
    try clear hcz39_0
    try clear hcz39_1
    try clear hcz39_2
    try clear hcz39_3
    try clear hcz39_4
    try clear hcz40_0
    try clear hcz40_1
    try clear hcz40_2
    try clear hcz40_3
    try clear hcz40_4
    try clear hcz43_0
    try clear hcz43_1
    try clear hcz43_2
    try clear hcz43_3
    try clear hcz43_4
    try clear hcz44_0
    try clear hcz44_1
    try clear hcz44_2
    try clear hcz44_3
    try clear hcz44_4
    try clear hcz46_0
    try clear hcz46_1
    try clear hcz46_2
    try clear hcz46_3
    try clear hcz46_4
    try clear hcz47_0
    try clear hcz47_1
    try clear hcz47_2
    try clear hcz47_3
    try clear hcz47_4
    try clear hcz49_0
    try clear hcz49_1
    try clear hcz49_2
    try clear hcz49_3
    try clear hcz49_4
    try clear hcz50_0
    try clear hcz50_1
    try clear hcz50_2
    try clear hcz50_3
    try clear hcz50_4
    try clear hcz52_0
    try clear hcz52_1
    try clear hcz52_2
    try clear hcz52_3
    try clear hcz52_4
    try clear hcz53_0
    try clear hcz53_1
    try clear hcz53_2
    try clear hcz53_3
    try clear hcz53_4
    try clear hcz8_0
    try clear hcz8_1
    try clear hcz8_2
    try clear hcz8_3
    try clear hcz8_4
    try clear hfz12_0
    try clear hfz12_1
    try clear hfz12_2
    try clear hfz12_3
    try clear hfz12_4
    try clear hfz13_0
    try clear hfz13_1
    try clear hfz13_2
    try clear hfz13_3
    try clear hfz13_4
    try clear hfz17_0
    try clear hfz17_1
    try clear hfz17_2
    try clear hfz17_3
    try clear hfz17_4
    try clear hfz18_0
    try clear hfz18_1
    try clear hfz18_2
    try clear hfz18_3
    try clear hfz18_4
    try clear hfz23_0
    try clear hfz23_1
    try clear hfz23_2
    try clear hfz23_3
    try clear hfz23_4
    try clear hfz24_0
    try clear hfz24_1
    try clear hfz24_2
    try clear hfz24_3
    try clear hfz24_4
    try clear hfz26_0
    try clear hfz26_1
    try clear hfz26_2
    try clear hfz26_3
    try clear hfz26_4
    try clear hfz27_0
    try clear hfz27_1
    try clear hfz27_2
    try clear hfz27_3
    try clear hfz27_4
    try clear hfz29_0
    try clear hfz29_1
    try clear hfz29_2
    try clear hfz29_3
    try clear hfz29_4
    try clear hfz30_0
    try clear hfz30_1
    try clear hfz30_2
    try clear hfz30_3
    try clear hfz30_4
    try clear hfz32_0
    try clear hfz32_1
    try clear hfz32_2
    try clear hfz32_3
    try clear hfz32_4
    try clear hfz33_0
    try clear hfz33_1
    try clear hfz33_2
    try clear hfz33_3
    try clear hfz33_4
    try clear hfz36_0
    try clear hfz36_1
    try clear hfz36_2
    try clear hfz36_3
    try clear hfz36_4
    try clear hfz37_0
    try clear hfz37_1
    try clear hfz37_2
    try clear hfz37_3
    try clear hfz37_4
    try clear hfz39_0
    try clear hfz39_1
    try clear hfz39_2
    try clear hfz39_3
    try clear hfz39_4
    try clear hfz40_0
    try clear hfz40_1
    try clear hfz40_2
    try clear hfz40_3
    try clear hfz40_4
    try clear hfz43_0
    try clear hfz43_1
    try clear hfz43_2
    try clear hfz43_3
    try clear hfz43_4
    try clear hfz44_0
    try clear hfz44_1
    try clear hfz44_2
    try clear hfz44_3
    try clear hfz44_4
    try clear hfz46_0
    try clear hfz46_1
    try clear hfz46_2
    try clear hfz46_3
    try clear hfz46_4
    try clear hfz47_0
    try clear hfz47_1
    try clear hfz47_2
    try clear hfz47_3
    try clear hfz47_4
    try clear hfz49_0
    try clear hfz49_1
    try clear hfz49_2
    try clear hfz49_3
    try clear hfz49_4
    try clear hfz50_0
    try clear hfz50_1
    try clear hfz50_2
    try clear hfz50_3
    try clear hfz50_4
    try clear hfz52_0
    try clear hfz52_1
    try clear hfz52_2
    try clear hfz52_3
    try clear hfz52_4
    try clear hfz53_0
    try clear hfz53_1
    try clear hfz53_2
    try clear hfz53_3
    try clear hfz53_4
    try clear hfz8_0
    try clear hfz8_1
    try clear hfz8_2
    try clear hfz8_3
    try clear hfz8_4
    obtain ⟨kq, x20_4, rfl, HA, HJ4, BK186, BK192, HB⟩ := hcut
    cases kq with
    | zero => exact absurd HA.out (by simp [latheref02_Div.j0])
    | succ kj4 =>
      have H := HA.out
      clear HA
      simp only [latheref02_Div.j0] at H
      by_cases c54 : x20_4 = true
      · subst c54
        have H1 : (some 2143289344) = some r := by rw [if_pos rfl] at H; exact H
        clear H
        have H := H1
        clear H1
        obtain rfl := Option.some.inj H
        go_wp2
        go_ret
        exact ⟨by first | rfl | (simp [errW_none, errW_some] <;> rfl) | (simp [*, errW_none, errW_some] <;> rfl), by repeat (first | (with_reducible first | exact HB.out | apply below_alloc | apply pw_below_drewN | apply below_drew1 | refine below_set ?_ GE186.out | refine below_set ?_ GE192.out) | exact HB.out)⟩
      · replace c54 := Bool.eq_false_iff.mpr c54
        subst c54
        have H1 : (if t184 = true then (latheref02_Div.j1 kj4 (t181 != t187) true t181 t182 t183 t184 t185 t187 t188 t189 t190 t191) else (if t190 = true then (latheref02_Div.j1 kj4 (t181 != t187) false t181 t182 t183 t184 t185 t187 t188 t189 t190 t191) else (latheref02_Div.j1 kj4 (t181 != t187) (t188 == 0) t181 t182 t183 t184 t185 t187 t188 t189 t190 t191))) = some r := by rw [if_neg (show ¬ (false = true) by decide)] at H; exact H
        clear H
        have H := H1
        clear H1
        have HC55 := Aside0.mk H
        clear H
        go_upto_region 6 with (fail)
        go_cut [52] (fun v52 wc => ∃ (kq : Nat) (x52_54 : Bool), v52 = .bool x52_54 ∧ Aside0 (latheref02_Div.j1 kq (t181 != t187) x52_54 t181 t182 t183 t184 t185 t187 t188 t189 t190 t191 = some r) ∧ Aside0 (kq ≤ kj4) ∧ Aside0 (wc.heap[gb186]? = some (.cells #[.bool t181, .int .u64 t182, .int .i64 t183, .bool t184, .bool t185] 129 (0, 0))) ∧ Aside0 (wc.heap[gb192]? = some (.cells #[.bool t187, .int .u64 t188, .int .i64 t189, .bool t190, .bool t191] 129 (0, 0))) ∧ Aside0 (Below w.heap.size w wc))
        case first =>
          have H := HC55.out
          clear HC55
          by_cases c56 : t184 = true
          · subst c56
            have H1 : (latheref02_Div.j1 kj4 (t181 != t187) true t181 t182 t183 true t185 t187 t188 t189 t190 t191) = some r := by rw [if_pos rfl] at H; exact H
            clear H
            have H := H1
            clear H1
            have H' := Aside0.mk H
            clear H
            have hnb57 := NB186_192.out
            have hnc57 := NB192_186.out
            have hcz58_0 : wc.cell? ⟨gb186, 0, none⟩ = some (.bool t181) := (blk_cell BK186.out 0).trans rfl
            have hcz58_1 : wc.cell? ⟨gb186, 1, none⟩ = some (.int .u64 t182) := (blk_cell BK186.out 1).trans rfl
            have hcz58_2 : wc.cell? ⟨gb186, 2, none⟩ = some (.int .i64 t183) := (blk_cell BK186.out 2).trans rfl
            have hcz58_3 : wc.cell? ⟨gb186, 3, none⟩ = some (.bool true) := (blk_cell BK186.out 3).trans rfl
            have hcz58_4 : wc.cell? ⟨gb186, 4, none⟩ = some (.bool t185) := (blk_cell BK186.out 4).trans rfl
            have hfz58_0 := blk_frozen BK186.out 0
            have hfz58_1 := blk_frozen BK186.out 1
            have hfz58_2 := blk_frozen BK186.out 2
            have hfz58_3 := blk_frozen BK186.out 3
            have hfz58_4 := blk_frozen BK186.out 4
            go_wp2
            go_meet
            case rel => exact ⟨_, (true), (by first | rfl | (simp; done) | (simp [*]; done)), H', ⟨by have := HJ4.out; first | omega | exact Nat.le_refl _⟩, ⟨by (with_reducible repeat (first | refine blk_drewN ?_ _ | refine blk_drew ?_ | refine blk_alloc ?_ _)); exact BK186.out⟩, ⟨by (with_reducible repeat (first | refine blk_drewN ?_ _ | refine blk_drew ?_ | refine blk_alloc ?_ _)); exact BK192.out⟩, ⟨by repeat (first | (with_reducible first | exact HB.out | apply below_alloc | apply pw_below_drewN | apply below_drew1 | refine below_set ?_ GE186.out | refine below_set ?_ GE192.out) | exact HB.out)⟩⟩
          · replace c56 := Bool.eq_false_iff.mpr c56
            subst c56
            have H1 : (if t190 = true then (latheref02_Div.j1 kj4 (t181 != t187) false t181 t182 t183 false t185 t187 t188 t189 t190 t191) else (latheref02_Div.j1 kj4 (t181 != t187) (t188 == 0) t181 t182 t183 false t185 t187 t188 t189 t190 t191)) = some r := by rw [if_neg (show ¬ (false = true) by decide)] at H; exact H
            clear H
            have H := H1
            clear H1
            by_cases c59 : t190 = true
            · subst c59
              have H1 : (latheref02_Div.j1 kj4 (t181 != t187) false t181 t182 t183 false t185 t187 t188 t189 true t191) = some r := by rw [if_pos rfl] at H; exact H
              clear H
              have H := H1
              clear H1
              have H' := Aside0.mk H
              clear H
              have hnb60 := NB186_192.out
              have hnc60 := NB192_186.out
              have hcz61_0 : wc.cell? ⟨gb186, 0, none⟩ = some (.bool t181) := (blk_cell BK186.out 0).trans rfl
              have hcz61_1 : wc.cell? ⟨gb186, 1, none⟩ = some (.int .u64 t182) := (blk_cell BK186.out 1).trans rfl
              have hcz61_2 : wc.cell? ⟨gb186, 2, none⟩ = some (.int .i64 t183) := (blk_cell BK186.out 2).trans rfl
              have hcz61_3 : wc.cell? ⟨gb186, 3, none⟩ = some (.bool false) := (blk_cell BK186.out 3).trans rfl
              have hcz61_4 : wc.cell? ⟨gb186, 4, none⟩ = some (.bool t185) := (blk_cell BK186.out 4).trans rfl
              have hfz61_0 := blk_frozen BK186.out 0
              have hfz61_1 := blk_frozen BK186.out 1
              have hfz61_2 := blk_frozen BK186.out 2
              have hfz61_3 := blk_frozen BK186.out 3
              have hfz61_4 := blk_frozen BK186.out 4
              have hcz62_0 : wc.cell? ⟨gb192, 0, none⟩ = some (.bool t187) := (blk_cell BK192.out 0).trans rfl
              have hcz62_1 : wc.cell? ⟨gb192, 1, none⟩ = some (.int .u64 t188) := (blk_cell BK192.out 1).trans rfl
              have hcz62_2 : wc.cell? ⟨gb192, 2, none⟩ = some (.int .i64 t189) := (blk_cell BK192.out 2).trans rfl
              have hcz62_3 : wc.cell? ⟨gb192, 3, none⟩ = some (.bool true) := (blk_cell BK192.out 3).trans rfl
              have hcz62_4 : wc.cell? ⟨gb192, 4, none⟩ = some (.bool t191) := (blk_cell BK192.out 4).trans rfl
              have hfz62_0 := blk_frozen BK192.out 0
              have hfz62_1 := blk_frozen BK192.out 1
              have hfz62_2 := blk_frozen BK192.out 2
              have hfz62_3 := blk_frozen BK192.out 3
              have hfz62_4 := blk_frozen BK192.out 4
              go_wp2
              go_meet
              case rel => exact ⟨_, (false), (by first | rfl | (simp; done) | (simp [*]; done)), H', ⟨by have := HJ4.out; first | omega | exact Nat.le_refl _⟩, ⟨by (with_reducible repeat (first | refine blk_drewN ?_ _ | refine blk_drew ?_ | refine blk_alloc ?_ _)); exact BK186.out⟩, ⟨by (with_reducible repeat (first | refine blk_drewN ?_ _ | refine blk_drew ?_ | refine blk_alloc ?_ _)); exact BK192.out⟩, ⟨by repeat (first | (with_reducible first | exact HB.out | apply below_alloc | apply pw_below_drewN | apply below_drew1 | refine below_set ?_ GE186.out | refine below_set ?_ GE192.out) | exact HB.out)⟩⟩
            · replace c59 := Bool.eq_false_iff.mpr c59
              subst c59
              have H1 : (latheref02_Div.j1 kj4 (t181 != t187) (t188 == 0) t181 t182 t183 false t185 t187 t188 t189 false t191) = some r := by rw [if_neg (show ¬ (false = true) by decide)] at H; exact H
              clear H
              have H := H1
              clear H1
              have H' := Aside0.mk H
              clear H
              have hnb63 := NB186_192.out
              have hnc63 := NB192_186.out
              have hcz64_0 : wc.cell? ⟨gb186, 0, none⟩ = some (.bool t181) := (blk_cell BK186.out 0).trans rfl
              have hcz64_1 : wc.cell? ⟨gb186, 1, none⟩ = some (.int .u64 t182) := (blk_cell BK186.out 1).trans rfl
              have hcz64_2 : wc.cell? ⟨gb186, 2, none⟩ = some (.int .i64 t183) := (blk_cell BK186.out 2).trans rfl
              have hcz64_3 : wc.cell? ⟨gb186, 3, none⟩ = some (.bool false) := (blk_cell BK186.out 3).trans rfl
              have hcz64_4 : wc.cell? ⟨gb186, 4, none⟩ = some (.bool t185) := (blk_cell BK186.out 4).trans rfl
              have hfz64_0 := blk_frozen BK186.out 0
              have hfz64_1 := blk_frozen BK186.out 1
              have hfz64_2 := blk_frozen BK186.out 2
              have hfz64_3 := blk_frozen BK186.out 3
              have hfz64_4 := blk_frozen BK186.out 4
              have hcz65_0 : wc.cell? ⟨gb192, 0, none⟩ = some (.bool t187) := (blk_cell BK192.out 0).trans rfl
              have hcz65_1 : wc.cell? ⟨gb192, 1, none⟩ = some (.int .u64 t188) := (blk_cell BK192.out 1).trans rfl
              have hcz65_2 : wc.cell? ⟨gb192, 2, none⟩ = some (.int .i64 t189) := (blk_cell BK192.out 2).trans rfl
              have hcz65_3 : wc.cell? ⟨gb192, 3, none⟩ = some (.bool false) := (blk_cell BK192.out 3).trans rfl
              have hcz65_4 : wc.cell? ⟨gb192, 4, none⟩ = some (.bool t191) := (blk_cell BK192.out 4).trans rfl
              have hfz65_0 := blk_frozen BK192.out 0
              have hfz65_1 := blk_frozen BK192.out 1
              have hfz65_2 := blk_frozen BK192.out 2
              have hfz65_3 := blk_frozen BK192.out 3
              have hfz65_4 := blk_frozen BK192.out 4
              go_wp2
              go_meet
              case rel => exact ⟨_, ((t188 == 0)), (by first | rfl | (simp; done) | (simp [*]; done)), H', ⟨by have := HJ4.out; first | omega | exact Nat.le_refl _⟩, ⟨by (with_reducible repeat (first | refine blk_drewN ?_ _ | refine blk_drew ?_ | refine blk_alloc ?_ _)); exact BK186.out⟩, ⟨by (with_reducible repeat (first | refine blk_drewN ?_ _ | refine blk_drew ?_ | refine blk_alloc ?_ _)); exact BK192.out⟩, ⟨by repeat (first | (with_reducible first | exact HB.out | apply below_alloc | apply pw_below_drewN | apply below_drew1 | refine below_set ?_ GE186.out | refine below_set ?_ GE192.out) | exact HB.out)⟩⟩
        case rest =>
          clear HC55
          try clear c1
          try clear c2
          try clear p2
          try clear c3
          try clear c4
          try clear c5
          try clear c6
          try clear c7
          try clear c11
          try clear c12
          try clear c15
          try clear c16
          try clear c20
          try clear c21
          try clear c22
          try clear c28
          try clear c34
          try clear c35
          try clear c41
          try clear c41b0
          try clear c41b1
          try clear c42
          try clear c48
          try clear c54
          try clear c56
          try clear c57
          try clear c59
          try clear c60
          try clear c63
          try clear hcz12_0
          try clear hcz12_1
          try clear hcz12_2
          try clear hcz12_3
          try clear hcz12_4
          try clear hcz13_0
          try clear hcz13_1
          try clear hcz13_2
          try clear hcz13_3
          try clear hcz13_4
          try clear hcz17_0
          try clear hcz17_1
          try clear hcz17_2
          try clear hcz17_3
          try clear hcz17_4
          try clear hcz18_0
          try clear hcz18_1
          try clear hcz18_2
          try clear hcz18_3
          try clear hcz18_4
          try clear hcz23_0
          try clear hcz23_1
          try clear hcz23_2
          try clear hcz23_3
          try clear hcz23_4
          try clear hcz24_0
          try clear hcz24_1
          try clear hcz24_2
          try clear hcz24_3
          try clear hcz24_4
          try clear hcz26_0
          try clear hcz26_1
          try clear hcz26_2
          try clear hcz26_3
          try clear hcz26_4
          try clear hcz27_0
          try clear hcz27_1
          try clear hcz27_2
          try clear hcz27_3
          try clear hcz27_4
          try clear hcz29_0
          try clear hcz29_1
          try clear hcz29_2
          try clear hcz29_3
          try clear hcz29_4
          try clear hcz30_0
          try clear hcz30_1
          try clear hcz30_2
          try clear hcz30_3
          try clear hcz30_4
          try clear hcz32_0
          try clear hcz32_1
          try clear hcz32_2
          try clear hcz32_3
          try clear hcz32_4
          try clear hcz33_0
          try clear hcz33_1
          try clear hcz33_2
          try clear hcz33_3
          try clear hcz33_4
          try clear hcz36_0
          try clear hcz36_1
          try clear hcz36_2
          try clear hcz36_3
          try clear hcz36_4
          try clear hcz37_0
          try clear hcz37_1
          try clear hcz37_2
          try clear hcz37_3
          try clear hcz37_4
          try clear hcz39_0
          try clear hcz39_1
          try clear hcz39_2
          try clear hcz39_3
          try clear hcz39_4
          try clear hcz40_0
          try clear hcz40_1
          try clear hcz40_2
          try clear hcz40_3
          try clear hcz40_4
          try clear hcz43_0
          try clear hcz43_1
          try clear hcz43_2
          try clear hcz43_3
          try clear hcz43_4
          try clear hcz44_0
          try clear hcz44_1
          try clear hcz44_2
          try clear hcz44_3
          try clear hcz44_4
          try clear hcz46_0
          try clear hcz46_1
          try clear hcz46_2
          try clear hcz46_3
          try clear hcz46_4
          try clear hcz47_0
          try clear hcz47_1
          try clear hcz47_2
          try clear hcz47_3
          try clear hcz47_4
          try clear hcz49_0
          try clear hcz49_1
          try clear hcz49_2
          try clear hcz49_3
          try clear hcz49_4
          try clear hcz50_0
          try clear hcz50_1
          try clear hcz50_2
          try clear hcz50_3
          try clear hcz50_4
          try clear hcz52_0
          try clear hcz52_1
          try clear hcz52_2
          try clear hcz52_3
          try clear hcz52_4
          try clear hcz53_0
          try clear hcz53_1
          try clear hcz53_2
          try clear hcz53_3
          try clear hcz53_4
          try clear hcz58_0
          try clear hcz58_1
          try clear hcz58_2
          try clear hcz58_3
          try clear hcz58_4
          try clear hcz61_0
          try clear hcz61_1
          try clear hcz61_2
          try clear hcz61_3
          try clear hcz61_4
          try clear hcz62_0
          try clear hcz62_1
          try clear hcz62_2
          try clear hcz62_3
          try clear hcz62_4
          try clear hcz64_0
          try clear hcz64_1
          try clear hcz64_2
          try clear hcz64_3
          try clear hcz64_4
          try clear hcz65_0
          try clear hcz65_1
          try clear hcz65_2
          try clear hcz65_3
          try clear hcz65_4
          try clear hcz8_0
          try clear hcz8_1
          try clear hcz8_2
          try clear hcz8_3
          try clear hcz8_4
          try clear hfz12_0
          try clear hfz12_1
          try clear hfz12_2
          try clear hfz12_3
          try clear hfz12_4
          try clear hfz13_0
          try clear hfz13_1
          try clear hfz13_2
          try clear hfz13_3
          try clear hfz13_4
          try clear hfz17_0
          try clear hfz17_1
          try clear hfz17_2
          try clear hfz17_3
          try clear hfz17_4
          try clear hfz18_0
          try clear hfz18_1
          try clear hfz18_2
          try clear hfz18_3
          try clear hfz18_4
          try clear hfz23_0
          try clear hfz23_1
          try clear hfz23_2
          try clear hfz23_3
          try clear hfz23_4
          try clear hfz24_0
          try clear hfz24_1
          try clear hfz24_2
          try clear hfz24_3
          try clear hfz24_4
          try clear hfz26_0
          try clear hfz26_1
          try clear hfz26_2
          try clear hfz26_3
          try clear hfz26_4
          try clear hfz27_0
          try clear hfz27_1
          try clear hfz27_2
          try clear hfz27_3
          try clear hfz27_4
          try clear hfz29_0
          try clear hfz29_1
          try clear hfz29_2
          try clear hfz29_3
          try clear hfz29_4
          try clear hfz30_0
          try clear hfz30_1
          try clear hfz30_2
          try clear hfz30_3
          try clear hfz30_4
          try clear hfz32_0
          try clear hfz32_1
          try clear hfz32_2
          try clear hfz32_3
          try clear hfz32_4
          try clear hfz33_0
          try clear hfz33_1
          try clear hfz33_2
          try clear hfz33_3
          try clear hfz33_4
          try clear hfz36_0
          try clear hfz36_1
          try clear hfz36_2
          try clear hfz36_3
          try clear hfz36_4
          try clear hfz37_0
          try clear hfz37_1
          try clear hfz37_2
          try clear hfz37_3
          try clear hfz37_4
          try clear hfz39_0
          try clear hfz39_1
          try clear hfz39_2
          try clear hfz39_3
          try clear hfz39_4
          try clear hfz40_0
          try clear hfz40_1
          try clear hfz40_2
          try clear hfz40_3
          try clear hfz40_4
          try clear hfz43_0
          try clear hfz43_1
          try clear hfz43_2
          try clear hfz43_3
          try clear hfz43_4
          try clear hfz44_0
          try clear hfz44_1
          try clear hfz44_2
          try clear hfz44_3
          try clear hfz44_4
          try clear hfz46_0
          try clear hfz46_1
          try clear hfz46_2
          try clear hfz46_3
          try clear hfz46_4
          try clear hfz47_0
          try clear hfz47_1
          try clear hfz47_2
          try clear hfz47_3
          try clear hfz47_4
          try clear hfz49_0
          try clear hfz49_1
          try clear hfz49_2
          try clear hfz49_3
          try clear hfz49_4
          try clear hfz50_0
          try clear hfz50_1
          try clear hfz50_2
          try clear hfz50_3
          try clear hfz50_4
          try clear hfz52_0
          try clear hfz52_1
          try clear hfz52_2
          try clear hfz52_3
          try clear hfz52_4
          try clear hfz53_0
          try clear hfz53_1
          try clear hfz53_2
          try clear hfz53_3
          try clear hfz53_4
          try clear hfz58_0
          try clear hfz58_1
          try clear hfz58_2
          try clear hfz58_3
          try clear hfz58_4
          try clear hfz61_0
          try clear hfz61_1
          try clear hfz61_2
          try clear hfz61_3
          try clear hfz61_4
          try clear hfz62_0
          try clear hfz62_1
          try clear hfz62_2
          try clear hfz62_3
          try clear hfz62_4
          try clear hfz64_0
          try clear hfz64_1
          try clear hfz64_2
          try clear hfz64_3
          try clear hfz64_4
          try clear hfz65_0
          try clear hfz65_1
          try clear hfz65_2
          try clear hfz65_3
          try clear hfz65_4
          try clear hfz8_0
          try clear hfz8_1
          try clear hfz8_2
          try clear hfz8_3
          try clear hfz8_4
          try clear p2
          obtain ⟨kq, x52_54, rfl, HA, HJ54, BK186, BK192, HB⟩ := hcut
          cases kq with
          | zero => exact absurd HA.out (by simp [latheref02_Div.j1])
          | succ kj54 =>
            have H := HA.out
            clear HA
            simp only [latheref02_Div.j1] at H
            by_cases c66 : x52_54 = true
            · subst c66
              have H1 : ((latheref02_infinite.f (t181 != t187)).bind fun t194 => (some t194)) = some r := by rw [if_pos rfl] at H; exact H
              clear H
              have H := H1
              clear H1
              replace H := Option.bind_eq_some_iff.mp H
              obtain ⟨t194, A670, H⟩ := H
              replace H : (some t194) = some r := H
              have A67 := Aside0.mk A670
              clear A670
              obtain rfl := Option.some.inj H
              go_wp2_with (first | ((with_reducible refine gate_callee (f := 121) rfl ?_); refine goesL_ (some 66) rfl rfl Try.func121 (by kernel_rfl) rfl #[.bool (t181 != t187)] rfl (by (try simp only [List.map_toArray, List.map_cons, List.map_nil]); first | done | rfl | (simp only [List.length_drop, List.length_take]; rfl)) ?_; (with_reducible refine (latheref02_infinite.calls (t181 != t187) t194 _ A67.out).mono ?_); clear A67; rintro e w' ⟨rfl, ⟨nd, rfl⟩⟩; refine ⟨_, rfl, ?_⟩))
              go_ret
              exact ⟨by first | rfl | (simp [errW_none, errW_some] <;> rfl) | (simp [*, errW_none, errW_some] <;> rfl), by repeat (first | (with_reducible first | exact HB.out | apply below_alloc | apply pw_below_drewN | apply below_drew1 | refine below_set ?_ GE186.out | refine below_set ?_ GE192.out) | exact HB.out)⟩
            · replace c66 := Bool.eq_false_iff.mpr c66
              subst c66
              have H1 : (if t190 = true then ((latheref02_zero.f (t181 != t187)).bind fun t195 => (some t195)) else (if t182 = 0 then ((latheref02_zero.f (t181 != t187)).bind fun t196 => (some t196)) else ((latheref02_up.f t181 t182 t183 t184 t185).bind fun bt197 => ((latheref02_up.f t187 t188 t189 t190 t191).bind fun bt202 => (if bt202.2.1 = 0 then (none) else (if (Int.tmod (IntKind.u64.wrap (bt197.2.1 * 274877906944)) bt202.2.1) > 0 then ((latheref02_Round.f kj54 (t181 != t187) (IntKind.u64.wrap ((IntKind.u64.wrap ((IntKind.u64.wrap (Int.tdiv (IntKind.u64.wrap (bt197.2.1 * 274877906944)) bt202.2.1)) * 2)) + 1)) (wrap64 ((wrap64 (bt197.2.2.1 - bt202.2.2.1)) - 39))).bind fun t207 => (some t207)) else ((latheref02_Round.f kj54 (t181 != t187) (IntKind.u64.wrap ((IntKind.u64.wrap (Int.tdiv (IntKind.u64.wrap (bt197.2.1 * 274877906944)) bt202.2.1)) * 2)) (wrap64 ((wrap64 (bt197.2.2.1 - bt202.2.2.1)) - 39))).bind fun t208 => (some t208)))))))) = some r := by rw [if_neg (show ¬ (false = true) by decide)] at H; exact H
              clear H
              have H := H1
              clear H1
              by_cases c68 : t190 = true
              · subst c68
                have H1 : ((latheref02_zero.f (t181 != t187)).bind fun t195 => (some t195)) = some r := by rw [if_pos rfl] at H; exact H
                clear H
                have H := H1
                clear H1
                replace H := Option.bind_eq_some_iff.mp H
                obtain ⟨t195, A690, H⟩ := H
                replace H : (some t195) = some r := H
                have A69 := Aside0.mk A690
                clear A690
                obtain rfl := Option.some.inj H
                have hnb70 := NB192_186.out
                have hnc70 := NB186_192.out
                have hcz71_0 : wc.cell? ⟨gb192, 0, none⟩ = some (.bool t187) := (blk_cell BK192.out 0).trans rfl
                have hcz71_1 : wc.cell? ⟨gb192, 1, none⟩ = some (.int .u64 t188) := (blk_cell BK192.out 1).trans rfl
                have hcz71_2 : wc.cell? ⟨gb192, 2, none⟩ = some (.int .i64 t189) := (blk_cell BK192.out 2).trans rfl
                have hcz71_3 : wc.cell? ⟨gb192, 3, none⟩ = some (.bool true) := (blk_cell BK192.out 3).trans rfl
                have hcz71_4 : wc.cell? ⟨gb192, 4, none⟩ = some (.bool t191) := (blk_cell BK192.out 4).trans rfl
                have hfz71_0 := blk_frozen BK192.out 0
                have hfz71_1 := blk_frozen BK192.out 1
                have hfz71_2 := blk_frozen BK192.out 2
                have hfz71_3 := blk_frozen BK192.out 3
                have hfz71_4 := blk_frozen BK192.out 4
                go_wp2_with (first | ((with_reducible refine gate_callee (f := 122) rfl ?_); refine goesL_ (some 76) rfl rfl Try.func122 (by kernel_rfl) rfl #[.bool (t181 != t187)] rfl (by (try simp only [List.map_toArray, List.map_cons, List.map_nil]); first | done | rfl | (simp only [List.length_drop, List.length_take]; rfl)) ?_; (with_reducible refine (latheref02_zero.calls (t181 != t187) t195 _ A69.out).mono ?_); clear A69; rintro e w' ⟨rfl, ⟨nd, rfl⟩⟩; refine ⟨_, rfl, ?_⟩))
                go_ret
                exact ⟨by first | rfl | (simp [errW_none, errW_some] <;> rfl) | (simp [*, errW_none, errW_some] <;> rfl), by repeat (first | (with_reducible first | exact HB.out | apply below_alloc | apply pw_below_drewN | apply below_drew1 | refine below_set ?_ GE186.out | refine below_set ?_ GE192.out) | exact HB.out)⟩
              · replace c68 := Bool.eq_false_iff.mpr c68
                subst c68
                have H1 : (if t182 = 0 then ((latheref02_zero.f (t181 != t187)).bind fun t196 => (some t196)) else ((latheref02_up.f t181 t182 t183 t184 t185).bind fun bt197 => ((latheref02_up.f t187 t188 t189 false t191).bind fun bt202 => (if bt202.2.1 = 0 then (none) else (if (Int.tmod (IntKind.u64.wrap (bt197.2.1 * 274877906944)) bt202.2.1) > 0 then ((latheref02_Round.f kj54 (t181 != t187) (IntKind.u64.wrap ((IntKind.u64.wrap ((IntKind.u64.wrap (Int.tdiv (IntKind.u64.wrap (bt197.2.1 * 274877906944)) bt202.2.1)) * 2)) + 1)) (wrap64 ((wrap64 (bt197.2.2.1 - bt202.2.2.1)) - 39))).bind fun t207 => (some t207)) else ((latheref02_Round.f kj54 (t181 != t187) (IntKind.u64.wrap ((IntKind.u64.wrap (Int.tdiv (IntKind.u64.wrap (bt197.2.1 * 274877906944)) bt202.2.1)) * 2)) (wrap64 ((wrap64 (bt197.2.2.1 - bt202.2.2.1)) - 39))).bind fun t208 => (some t208))))))) = some r := by rw [if_neg (show ¬ (false = true) by decide)] at H; exact H
                clear H
                have H := H1
                clear H1
                by_cases c72 : t182 = 0
                · rw [if_pos c72] at H
                  have c72b0 : (t182 == 0) = true := beq_iff_eq.mpr c72
                  have c72b1 : (t182 != 0) = false := bne_eq_false_iff_eq.mpr c72
                  clear c72
                  replace H := Option.bind_eq_some_iff.mp H
                  obtain ⟨t196, A730, H⟩ := H
                  replace H : (some t196) = some r := H
                  have A73 := Aside0.mk A730
                  clear A730
                  obtain rfl := Option.some.inj H
                  have hnb74 := NB192_186.out
                  have hnc74 := NB186_192.out
                  have hcz75_0 : wc.cell? ⟨gb192, 0, none⟩ = some (.bool t187) := (blk_cell BK192.out 0).trans rfl
                  have hcz75_1 : wc.cell? ⟨gb192, 1, none⟩ = some (.int .u64 t188) := (blk_cell BK192.out 1).trans rfl
                  have hcz75_2 : wc.cell? ⟨gb192, 2, none⟩ = some (.int .i64 t189) := (blk_cell BK192.out 2).trans rfl
                  have hcz75_3 : wc.cell? ⟨gb192, 3, none⟩ = some (.bool false) := (blk_cell BK192.out 3).trans rfl
                  have hcz75_4 : wc.cell? ⟨gb192, 4, none⟩ = some (.bool t191) := (blk_cell BK192.out 4).trans rfl
                  have hfz75_0 := blk_frozen BK192.out 0
                  have hfz75_1 := blk_frozen BK192.out 1
                  have hfz75_2 := blk_frozen BK192.out 2
                  have hfz75_3 := blk_frozen BK192.out 3
                  have hfz75_4 := blk_frozen BK192.out 4
                  have hcz76_0 : wc.cell? ⟨gb186, 0, none⟩ = some (.bool t181) := (blk_cell BK186.out 0).trans rfl
                  have hcz76_1 : wc.cell? ⟨gb186, 1, none⟩ = some (.int .u64 t182) := (blk_cell BK186.out 1).trans rfl
                  have hcz76_2 : wc.cell? ⟨gb186, 2, none⟩ = some (.int .i64 t183) := (blk_cell BK186.out 2).trans rfl
                  have hcz76_3 : wc.cell? ⟨gb186, 3, none⟩ = some (.bool t184) := (blk_cell BK186.out 3).trans rfl
                  have hcz76_4 : wc.cell? ⟨gb186, 4, none⟩ = some (.bool t185) := (blk_cell BK186.out 4).trans rfl
                  have hfz76_0 := blk_frozen BK186.out 0
                  have hfz76_1 := blk_frozen BK186.out 1
                  have hfz76_2 := blk_frozen BK186.out 2
                  have hfz76_3 := blk_frozen BK186.out 3
                  have hfz76_4 := blk_frozen BK186.out 4
                  go_wp2_with (first | ((with_reducible refine gate_callee (f := 122) rfl ?_); refine goesL_ (some 76) rfl rfl Try.func122 (by kernel_rfl) rfl #[.bool (t181 != t187)] rfl (by (try simp only [List.map_toArray, List.map_cons, List.map_nil]); first | done | rfl | (simp only [List.length_drop, List.length_take]; rfl)) ?_; (with_reducible refine (latheref02_zero.calls (t181 != t187) t196 _ A73.out).mono ?_); clear A73; rintro e w' ⟨rfl, ⟨nd, rfl⟩⟩; refine ⟨_, rfl, ?_⟩))
                  go_ret
                  exact ⟨by first | rfl | (simp [errW_none, errW_some] <;> rfl) | (simp [*, errW_none, errW_some] <;> rfl), by repeat (first | (with_reducible first | exact HB.out | apply below_alloc | apply pw_below_drewN | apply below_drew1 | refine below_set ?_ GE186.out | refine below_set ?_ GE192.out) | exact HB.out)⟩
                · rw [if_neg c72] at H
                  have c72b0 : (t182 == 0) = false := beq_eq_false_iff_ne.mpr c72
                  have c72b1 : (t182 != 0) = true := bne_iff_ne.mpr c72
                  replace H := Option.bind_eq_some_iff.mp H
                  obtain ⟨⟨t197, t198, t199, t200, t201⟩, A770, H⟩ := H
                  replace H : ((latheref02_up.f t187 t188 t189 false t191).bind fun bt202 => (if bt202.2.1 = 0 then (none) else (if (Int.tmod (IntKind.u64.wrap (t198 * 274877906944)) bt202.2.1) > 0 then ((latheref02_Round.f kj54 (t181 != t187) (IntKind.u64.wrap ((IntKind.u64.wrap ((IntKind.u64.wrap (Int.tdiv (IntKind.u64.wrap (t198 * 274877906944)) bt202.2.1)) * 2)) + 1)) (wrap64 ((wrap64 (t199 - bt202.2.2.1)) - 39))).bind fun t207 => (some t207)) else ((latheref02_Round.f kj54 (t181 != t187) (IntKind.u64.wrap ((IntKind.u64.wrap (Int.tdiv (IntKind.u64.wrap (t198 * 274877906944)) bt202.2.1)) * 2)) (wrap64 ((wrap64 (t199 - bt202.2.2.1)) - 39))).bind fun t208 => (some t208))))) = some r := H
                  have A77 := Aside0.mk A770
                  clear A770
                  replace H := Option.bind_eq_some_iff.mp H
                  obtain ⟨⟨t202, t203, t204, t205, t206⟩, A780, H⟩ := H
                  replace H : (if t203 = 0 then (none) else (if (Int.tmod (IntKind.u64.wrap (t198 * 274877906944)) t203) > 0 then ((latheref02_Round.f kj54 (t181 != t187) (IntKind.u64.wrap ((IntKind.u64.wrap ((IntKind.u64.wrap (Int.tdiv (IntKind.u64.wrap (t198 * 274877906944)) t203)) * 2)) + 1)) (wrap64 ((wrap64 (t199 - t204)) - 39))).bind fun t207 => (some t207)) else ((latheref02_Round.f kj54 (t181 != t187) (IntKind.u64.wrap ((IntKind.u64.wrap (Int.tdiv (IntKind.u64.wrap (t198 * 274877906944)) t203)) * 2)) (wrap64 ((wrap64 (t199 - t204)) - 39))).bind fun t208 => (some t208)))) = some r := H
                  have A78 := Aside0.mk A780
                  clear A780
                  by_cases c79 : t203 = 0
                  · rw [if_pos c79] at H
                    exact absurd H (by simp)
                  · rw [if_neg c79] at H
                    have c79b0 : (t203 == 0) = false := beq_eq_false_iff_ne.mpr c79
                    have c79b1 : (t203 != 0) = true := bne_iff_ne.mpr c79
                    by_cases c80 : (Int.tmod (IntKind.u64.wrap (t198 * 274877906944)) t203) > 0
                    · rw [if_pos c80] at H
                      have c80b0 : decide (0 < (Int.tmod (IntKind.u64.wrap (t198 * 274877906944)) t203)) = true := decide_eq_true c80
                      clear c80
                      replace H := Option.bind_eq_some_iff.mp H
                      obtain ⟨t207, A810, H⟩ := H
                      replace H : (some t207) = some r := H
                      have A81 := Aside0.mk A810
                      clear A810
                      obtain rfl := Option.some.inj H
                      have hnb82 := NB192_186.out
                      have hnc82 := NB186_192.out
                      have hcz83_0 : wc.cell? ⟨gb192, 0, none⟩ = some (.bool t187) := (blk_cell BK192.out 0).trans rfl
                      have hcz83_1 : wc.cell? ⟨gb192, 1, none⟩ = some (.int .u64 t188) := (blk_cell BK192.out 1).trans rfl
                      have hcz83_2 : wc.cell? ⟨gb192, 2, none⟩ = some (.int .i64 t189) := (blk_cell BK192.out 2).trans rfl
                      have hcz83_3 : wc.cell? ⟨gb192, 3, none⟩ = some (.bool false) := (blk_cell BK192.out 3).trans rfl
                      have hcz83_4 : wc.cell? ⟨gb192, 4, none⟩ = some (.bool t191) := (blk_cell BK192.out 4).trans rfl
                      have hfz83_0 := blk_frozen BK192.out 0
                      have hfz83_1 := blk_frozen BK192.out 1
                      have hfz83_2 := blk_frozen BK192.out 2
                      have hfz83_3 := blk_frozen BK192.out 3
                      have hfz83_4 := blk_frozen BK192.out 4
                      have hcz84_0 : wc.cell? ⟨gb186, 0, none⟩ = some (.bool t181) := (blk_cell BK186.out 0).trans rfl
                      have hcz84_1 : wc.cell? ⟨gb186, 1, none⟩ = some (.int .u64 t182) := (blk_cell BK186.out 1).trans rfl
                      have hcz84_2 : wc.cell? ⟨gb186, 2, none⟩ = some (.int .i64 t183) := (blk_cell BK186.out 2).trans rfl
                      have hcz84_3 : wc.cell? ⟨gb186, 3, none⟩ = some (.bool t184) := (blk_cell BK186.out 3).trans rfl
                      have hcz84_4 : wc.cell? ⟨gb186, 4, none⟩ = some (.bool t185) := (blk_cell BK186.out 4).trans rfl
                      have hfz84_0 := blk_frozen BK186.out 0
                      have hfz84_1 := blk_frozen BK186.out 1
                      have hfz84_2 := blk_frozen BK186.out 2
                      have hfz84_3 := blk_frozen BK186.out 3
                      have hfz84_4 := blk_frozen BK186.out 4
                      go_wp2_with (first | ((with_reducible refine gate_callee (f := 125) rfl ?_); refine goesL_ (some 78) rfl rfl Try.func125 (by kernel_rfl) rfl #[.agg #[.bool t181, .int .u64 t182, .int .i64 t183, .bool t184, .bool t185]] rfl (by (try simp only [List.map_toArray, List.map_cons, List.map_nil]); first | done | rfl | (simp only [List.length_drop, List.length_take]; rfl)) ?_; (with_reducible refine (latheref02_up.calls t181 t182 t183 t184 t185 t197 t198 t199 t200 t201 _ A77.out).mono ?_); clear A77; rintro e w85 ⟨rfl, hb⟩; refine ⟨_, rfl, ?_⟩; have n0_ := Aside0.mk (blk_below (g := gb186) (o := .cells #[.bool t181, .int .u64 t182, .int .i64 t183, .bool t184, .bool t185] 129 (0, 0)) (by (with_reducible repeat (first | refine blk_drewN ?_ _ | refine blk_drew ?_ | refine blk_alloc ?_ _)); exact BK186.out) hb); have n1_ := Aside0.mk (blk_below (g := gb192) (o := .cells #[.bool t187, .int .u64 t188, .int .i64 t189, .bool false, .bool t191] 129 (0, 0)) (by (with_reducible repeat (first | refine blk_drewN ?_ _ | refine blk_drew ?_ | refine blk_alloc ?_ _)); exact BK192.out) hb); have n2_ := Aside0.mk (below_step (by repeat (first | (with_reducible first | exact HB.out | apply below_alloc | apply pw_below_drewN | apply below_drew1 | refine below_set ?_ GE186.out | refine below_set ?_ GE192.out) | exact HB.out)) hb); clear BK186; clear BK192; clear HB; have BK186 := n0_; have BK192 := n1_; have HB := n2_; clear n0_ n1_ n2_; (try clear hb); (try clear hb2); (try clear hk); (try clear hi); have hcz86_0 : w85.cell? ⟨gb186, 0, none⟩ = some (.bool t181) := (blk_cell BK186.out 0).trans rfl; have hcz86_1 : w85.cell? ⟨gb186, 1, none⟩ = some (.int .u64 t182) := (blk_cell BK186.out 1).trans rfl; have hcz86_2 : w85.cell? ⟨gb186, 2, none⟩ = some (.int .i64 t183) := (blk_cell BK186.out 2).trans rfl; have hcz86_3 : w85.cell? ⟨gb186, 3, none⟩ = some (.bool t184) := (blk_cell BK186.out 3).trans rfl; have hcz86_4 : w85.cell? ⟨gb186, 4, none⟩ = some (.bool t185) := (blk_cell BK186.out 4).trans rfl; have hfz86_0 := blk_frozen BK186.out 0; have hfz86_1 := blk_frozen BK186.out 1; have hfz86_2 := blk_frozen BK186.out 2; have hfz86_3 := blk_frozen BK186.out 3; have hfz86_4 := blk_frozen BK186.out 4; have hcz87_0 : w85.cell? ⟨gb192, 0, none⟩ = some (.bool t187) := (blk_cell BK192.out 0).trans rfl; have hcz87_1 : w85.cell? ⟨gb192, 1, none⟩ = some (.int .u64 t188) := (blk_cell BK192.out 1).trans rfl; have hcz87_2 : w85.cell? ⟨gb192, 2, none⟩ = some (.int .i64 t189) := (blk_cell BK192.out 2).trans rfl; have hcz87_3 : w85.cell? ⟨gb192, 3, none⟩ = some (.bool false) := (blk_cell BK192.out 3).trans rfl; have hcz87_4 : w85.cell? ⟨gb192, 4, none⟩ = some (.bool t191) := (blk_cell BK192.out 4).trans rfl; have hfz87_0 := blk_frozen BK192.out 0; have hfz87_1 := blk_frozen BK192.out 1; have hfz87_2 := blk_frozen BK192.out 2; have hfz87_3 := blk_frozen BK192.out 3; have hfz87_4 := blk_frozen BK192.out 4) | ((with_reducible refine gate_callee (f := 125) rfl ?_); refine goesL_ (some 80) rfl rfl Try.func125 (by kernel_rfl) rfl #[.agg #[.bool t187, .int .u64 t188, .int .i64 t189, .bool false, .bool t191]] rfl (by (try simp only [List.map_toArray, List.map_cons, List.map_nil]); first | done | rfl | (simp only [List.length_drop, List.length_take]; rfl)) ?_; (with_reducible refine (latheref02_up.calls t187 t188 t189 false t191 t202 t203 t204 t205 t206 _ A78.out).mono ?_); clear A78; rintro e w88 ⟨rfl, hb⟩; refine ⟨_, rfl, ?_⟩; have n0_ := Aside0.mk (blk_below (g := gb186) (o := .cells #[.bool t197, .int .u64 t198, .int .i64 t199, .bool t200, .bool t201] 129 (0, 0)) (by (with_reducible repeat (first | refine blk_drewN ?_ _ | refine blk_drew ?_ | refine blk_alloc ?_ _)); refine blk_put (cs := #[.bool t197, .int .u64 t198, .int .i64 t199, .bool t200, .bool t185]) ?_ 4 _ rfl; (with_reducible repeat (first | refine blk_drewN ?_ _ | refine blk_drew ?_ | refine blk_alloc ?_ _)); refine blk_put (cs := #[.bool t197, .int .u64 t198, .int .i64 t199, .bool t184, .bool t185]) ?_ 3 _ rfl; (with_reducible repeat (first | refine blk_drewN ?_ _ | refine blk_drew ?_ | refine blk_alloc ?_ _)); refine blk_put (cs := #[.bool t197, .int .u64 t198, .int .i64 t183, .bool t184, .bool t185]) ?_ 2 _ rfl; (with_reducible repeat (first | refine blk_drewN ?_ _ | refine blk_drew ?_ | refine blk_alloc ?_ _)); refine blk_put (cs := #[.bool t197, .int .u64 t182, .int .i64 t183, .bool t184, .bool t185]) ?_ 1 _ rfl; (with_reducible repeat (first | refine blk_drewN ?_ _ | refine blk_drew ?_ | refine blk_alloc ?_ _)); refine blk_put (cs := #[.bool t181, .int .u64 t182, .int .i64 t183, .bool t184, .bool t185]) ?_ 0 _ rfl; (with_reducible repeat (first | refine blk_drewN ?_ _ | refine blk_drew ?_ | refine blk_alloc ?_ _)); exact BK186.out) hb); have n1_ := Aside0.mk (blk_below (g := gb192) (o := .cells #[.bool t187, .int .u64 t188, .int .i64 t189, .bool false, .bool t191] 129 (0, 0)) (by (with_reducible repeat (first | refine blk_drewN ?_ _ | refine blk_drew ?_ | refine blk_alloc ?_ _)); refine blk_far ?_ NB192_186.out _; (with_reducible repeat (first | refine blk_drewN ?_ _ | refine blk_drew ?_ | refine blk_alloc ?_ _)); refine blk_far ?_ NB192_186.out _; (with_reducible repeat (first | refine blk_drewN ?_ _ | refine blk_drew ?_ | refine blk_alloc ?_ _)); refine blk_far ?_ NB192_186.out _; (with_reducible repeat (first | refine blk_drewN ?_ _ | refine blk_drew ?_ | refine blk_alloc ?_ _)); refine blk_far ?_ NB192_186.out _; (with_reducible repeat (first | refine blk_drewN ?_ _ | refine blk_drew ?_ | refine blk_alloc ?_ _)); refine blk_far ?_ NB192_186.out _; (with_reducible repeat (first | refine blk_drewN ?_ _ | refine blk_drew ?_ | refine blk_alloc ?_ _)); exact BK192.out) hb); have n2_ := Aside0.mk (below_step (by repeat (first | (with_reducible first | exact HB.out | apply below_alloc | apply pw_below_drewN | apply below_drew1 | refine below_set ?_ GE186.out | refine below_set ?_ GE192.out) | exact HB.out)) hb); clear BK186; clear BK192; clear HB; have BK186 := n0_; have BK192 := n1_; have HB := n2_; clear n0_ n1_ n2_; (try clear hb); (try clear hb2); (try clear hk); (try clear hi); have hcz89_0 : w88.cell? ⟨gb192, 0, none⟩ = some (.bool t187) := (blk_cell BK192.out 0).trans rfl; have hcz89_1 : w88.cell? ⟨gb192, 1, none⟩ = some (.int .u64 t188) := (blk_cell BK192.out 1).trans rfl; have hcz89_2 : w88.cell? ⟨gb192, 2, none⟩ = some (.int .i64 t189) := (blk_cell BK192.out 2).trans rfl; have hcz89_3 : w88.cell? ⟨gb192, 3, none⟩ = some (.bool false) := (blk_cell BK192.out 3).trans rfl; have hcz89_4 : w88.cell? ⟨gb192, 4, none⟩ = some (.bool t191) := (blk_cell BK192.out 4).trans rfl; have hfz89_0 := blk_frozen BK192.out 0; have hfz89_1 := blk_frozen BK192.out 1; have hfz89_2 := blk_frozen BK192.out 2; have hfz89_3 := blk_frozen BK192.out 3; have hfz89_4 := blk_frozen BK192.out 4; have hcz90_0 : w88.cell? ⟨gb186, 0, none⟩ = some (.bool t197) := (blk_cell BK186.out 0).trans rfl; have hcz90_1 : w88.cell? ⟨gb186, 1, none⟩ = some (.int .u64 t198) := (blk_cell BK186.out 1).trans rfl; have hcz90_2 : w88.cell? ⟨gb186, 2, none⟩ = some (.int .i64 t199) := (blk_cell BK186.out 2).trans rfl; have hcz90_3 : w88.cell? ⟨gb186, 3, none⟩ = some (.bool t200) := (blk_cell BK186.out 3).trans rfl; have hcz90_4 : w88.cell? ⟨gb186, 4, none⟩ = some (.bool t201) := (blk_cell BK186.out 4).trans rfl; have hfz90_0 := blk_frozen BK186.out 0; have hfz90_1 := blk_frozen BK186.out 1; have hfz90_2 := blk_frozen BK186.out 2; have hfz90_3 := blk_frozen BK186.out 3; have hfz90_4 := blk_frozen BK186.out 4) | ((with_reducible refine gate_callee (f := 123) rfl ?_); refine goesL_ (some 106) rfl rfl Try.func123 (by kernel_rfl) rfl #[.bool (t181 != t187), .int .u64 (IntKind.u64.wrap ((IntKind.u64.wrap ((IntKind.u64.wrap (Int.tdiv (IntKind.u64.wrap (t198 * 274877906944)) t203)) * 2)) + 1)), .int .i64 (wrap64 ((wrap64 (t199 - t204)) - 39))] rfl (by (try simp only [List.map_toArray, List.map_cons, List.map_nil]); first | done | rfl | (simp only [List.length_drop, List.length_take]; rfl)) ?_; (with_reducible refine (latheref02_Round.calls kj54 (t181 != t187) (IntKind.u64.wrap ((IntKind.u64.wrap ((IntKind.u64.wrap (Int.tdiv (IntKind.u64.wrap (t198 * 274877906944)) t203)) * 2)) + 1)) (wrap64 ((wrap64 (t199 - t204)) - 39)) t207 _ A81.out).mono ?_); clear A81; rintro e w91 ⟨rfl, hb⟩; refine ⟨_, rfl, ?_⟩; have n0_ := Aside0.mk (blk_below (g := gb186) (o := .cells #[.bool t197, .int .u64 t198, .int .i64 t199, .bool t200, .bool t201] 129 (0, 0)) (by (with_reducible repeat (first | refine blk_drewN ?_ _ | refine blk_drew ?_ | refine blk_alloc ?_ _)); refine blk_far ?_ NB186_192.out _; (with_reducible repeat (first | refine blk_drewN ?_ _ | refine blk_drew ?_ | refine blk_alloc ?_ _)); refine blk_far ?_ NB186_192.out _; (with_reducible repeat (first | refine blk_drewN ?_ _ | refine blk_drew ?_ | refine blk_alloc ?_ _)); refine blk_far ?_ NB186_192.out _; (with_reducible repeat (first | refine blk_drewN ?_ _ | refine blk_drew ?_ | refine blk_alloc ?_ _)); refine blk_far ?_ NB186_192.out _; (with_reducible repeat (first | refine blk_drewN ?_ _ | refine blk_drew ?_ | refine blk_alloc ?_ _)); refine blk_far ?_ NB186_192.out _; (with_reducible repeat (first | refine blk_drewN ?_ _ | refine blk_drew ?_ | refine blk_alloc ?_ _)); exact BK186.out) hb); have n1_ := Aside0.mk (blk_below (g := gb192) (o := .cells #[.bool t202, .int .u64 t203, .int .i64 t204, .bool t205, .bool t206] 129 (0, 0)) (by (with_reducible repeat (first | refine blk_drewN ?_ _ | refine blk_drew ?_ | refine blk_alloc ?_ _)); refine blk_put (cs := #[.bool t202, .int .u64 t203, .int .i64 t204, .bool t205, .bool t191]) ?_ 4 _ rfl; (with_reducible repeat (first | refine blk_drewN ?_ _ | refine blk_drew ?_ | refine blk_alloc ?_ _)); refine blk_put (cs := #[.bool t202, .int .u64 t203, .int .i64 t204, .bool false, .bool t191]) ?_ 3 _ rfl; (with_reducible repeat (first | refine blk_drewN ?_ _ | refine blk_drew ?_ | refine blk_alloc ?_ _)); refine blk_put (cs := #[.bool t202, .int .u64 t203, .int .i64 t189, .bool false, .bool t191]) ?_ 2 _ rfl; (with_reducible repeat (first | refine blk_drewN ?_ _ | refine blk_drew ?_ | refine blk_alloc ?_ _)); refine blk_put (cs := #[.bool t202, .int .u64 t188, .int .i64 t189, .bool false, .bool t191]) ?_ 1 _ rfl; (with_reducible repeat (first | refine blk_drewN ?_ _ | refine blk_drew ?_ | refine blk_alloc ?_ _)); refine blk_put (cs := #[.bool t187, .int .u64 t188, .int .i64 t189, .bool false, .bool t191]) ?_ 0 _ rfl; (with_reducible repeat (first | refine blk_drewN ?_ _ | refine blk_drew ?_ | refine blk_alloc ?_ _)); exact BK192.out) hb); have n2_ := Aside0.mk (below_step (by repeat (first | (with_reducible first | exact HB.out | apply below_alloc | apply pw_below_drewN | apply below_drew1 | refine below_set ?_ GE186.out | refine below_set ?_ GE192.out) | exact HB.out)) hb); clear BK186; clear BK192; clear HB; have BK186 := n0_; have BK192 := n1_; have HB := n2_; clear n0_ n1_ n2_; (try clear hb); (try clear hb2); (try clear hk); (try clear hi)))
                      go_ret
                      exact ⟨by first | rfl | (simp [errW_none, errW_some] <;> rfl) | (simp [*, errW_none, errW_some] <;> rfl), by repeat (first | (with_reducible first | exact HB.out | apply below_alloc | apply pw_below_drewN | apply below_drew1 | refine below_set ?_ GE186.out | refine below_set ?_ GE192.out) | exact HB.out)⟩
                    · rw [if_neg c80] at H
                      have c80b0 : decide (0 < (Int.tmod (IntKind.u64.wrap (t198 * 274877906944)) t203)) = false := decide_eq_false c80
                      clear c80
                      replace H := Option.bind_eq_some_iff.mp H
                      obtain ⟨t208, A920, H⟩ := H
                      replace H : (some t208) = some r := H
                      have A92 := Aside0.mk A920
                      clear A920
                      obtain rfl := Option.some.inj H
                      have hnb93 := NB192_186.out
                      have hnc93 := NB186_192.out
                      have hcz94_0 : wc.cell? ⟨gb192, 0, none⟩ = some (.bool t187) := (blk_cell BK192.out 0).trans rfl
                      have hcz94_1 : wc.cell? ⟨gb192, 1, none⟩ = some (.int .u64 t188) := (blk_cell BK192.out 1).trans rfl
                      have hcz94_2 : wc.cell? ⟨gb192, 2, none⟩ = some (.int .i64 t189) := (blk_cell BK192.out 2).trans rfl
                      have hcz94_3 : wc.cell? ⟨gb192, 3, none⟩ = some (.bool false) := (blk_cell BK192.out 3).trans rfl
                      have hcz94_4 : wc.cell? ⟨gb192, 4, none⟩ = some (.bool t191) := (blk_cell BK192.out 4).trans rfl
                      have hfz94_0 := blk_frozen BK192.out 0
                      have hfz94_1 := blk_frozen BK192.out 1
                      have hfz94_2 := blk_frozen BK192.out 2
                      have hfz94_3 := blk_frozen BK192.out 3
                      have hfz94_4 := blk_frozen BK192.out 4
                      have hcz95_0 : wc.cell? ⟨gb186, 0, none⟩ = some (.bool t181) := (blk_cell BK186.out 0).trans rfl
                      have hcz95_1 : wc.cell? ⟨gb186, 1, none⟩ = some (.int .u64 t182) := (blk_cell BK186.out 1).trans rfl
                      have hcz95_2 : wc.cell? ⟨gb186, 2, none⟩ = some (.int .i64 t183) := (blk_cell BK186.out 2).trans rfl
                      have hcz95_3 : wc.cell? ⟨gb186, 3, none⟩ = some (.bool t184) := (blk_cell BK186.out 3).trans rfl
                      have hcz95_4 : wc.cell? ⟨gb186, 4, none⟩ = some (.bool t185) := (blk_cell BK186.out 4).trans rfl
                      have hfz95_0 := blk_frozen BK186.out 0
                      have hfz95_1 := blk_frozen BK186.out 1
                      have hfz95_2 := blk_frozen BK186.out 2
                      have hfz95_3 := blk_frozen BK186.out 3
                      have hfz95_4 := blk_frozen BK186.out 4
                      go_wp2_with (first | ((with_reducible refine gate_callee (f := 125) rfl ?_); refine goesL_ (some 78) rfl rfl Try.func125 (by kernel_rfl) rfl #[.agg #[.bool t181, .int .u64 t182, .int .i64 t183, .bool t184, .bool t185]] rfl (by (try simp only [List.map_toArray, List.map_cons, List.map_nil]); first | done | rfl | (simp only [List.length_drop, List.length_take]; rfl)) ?_; (with_reducible refine (latheref02_up.calls t181 t182 t183 t184 t185 t197 t198 t199 t200 t201 _ A77.out).mono ?_); clear A77; rintro e w96 ⟨rfl, hb⟩; refine ⟨_, rfl, ?_⟩; have n0_ := Aside0.mk (blk_below (g := gb186) (o := .cells #[.bool t181, .int .u64 t182, .int .i64 t183, .bool t184, .bool t185] 129 (0, 0)) (by (with_reducible repeat (first | refine blk_drewN ?_ _ | refine blk_drew ?_ | refine blk_alloc ?_ _)); exact BK186.out) hb); have n1_ := Aside0.mk (blk_below (g := gb192) (o := .cells #[.bool t187, .int .u64 t188, .int .i64 t189, .bool false, .bool t191] 129 (0, 0)) (by (with_reducible repeat (first | refine blk_drewN ?_ _ | refine blk_drew ?_ | refine blk_alloc ?_ _)); exact BK192.out) hb); have n2_ := Aside0.mk (below_step (by repeat (first | (with_reducible first | exact HB.out | apply below_alloc | apply pw_below_drewN | apply below_drew1 | refine below_set ?_ GE186.out | refine below_set ?_ GE192.out) | exact HB.out)) hb); clear BK186; clear BK192; clear HB; have BK186 := n0_; have BK192 := n1_; have HB := n2_; clear n0_ n1_ n2_; (try clear hb); (try clear hb2); (try clear hk); (try clear hi); have hcz97_0 : w96.cell? ⟨gb186, 0, none⟩ = some (.bool t181) := (blk_cell BK186.out 0).trans rfl; have hcz97_1 : w96.cell? ⟨gb186, 1, none⟩ = some (.int .u64 t182) := (blk_cell BK186.out 1).trans rfl; have hcz97_2 : w96.cell? ⟨gb186, 2, none⟩ = some (.int .i64 t183) := (blk_cell BK186.out 2).trans rfl; have hcz97_3 : w96.cell? ⟨gb186, 3, none⟩ = some (.bool t184) := (blk_cell BK186.out 3).trans rfl; have hcz97_4 : w96.cell? ⟨gb186, 4, none⟩ = some (.bool t185) := (blk_cell BK186.out 4).trans rfl; have hfz97_0 := blk_frozen BK186.out 0; have hfz97_1 := blk_frozen BK186.out 1; have hfz97_2 := blk_frozen BK186.out 2; have hfz97_3 := blk_frozen BK186.out 3; have hfz97_4 := blk_frozen BK186.out 4; have hcz98_0 : w96.cell? ⟨gb192, 0, none⟩ = some (.bool t187) := (blk_cell BK192.out 0).trans rfl; have hcz98_1 : w96.cell? ⟨gb192, 1, none⟩ = some (.int .u64 t188) := (blk_cell BK192.out 1).trans rfl; have hcz98_2 : w96.cell? ⟨gb192, 2, none⟩ = some (.int .i64 t189) := (blk_cell BK192.out 2).trans rfl; have hcz98_3 : w96.cell? ⟨gb192, 3, none⟩ = some (.bool false) := (blk_cell BK192.out 3).trans rfl; have hcz98_4 : w96.cell? ⟨gb192, 4, none⟩ = some (.bool t191) := (blk_cell BK192.out 4).trans rfl; have hfz98_0 := blk_frozen BK192.out 0; have hfz98_1 := blk_frozen BK192.out 1; have hfz98_2 := blk_frozen BK192.out 2; have hfz98_3 := blk_frozen BK192.out 3; have hfz98_4 := blk_frozen BK192.out 4) | ((with_reducible refine gate_callee (f := 125) rfl ?_); refine goesL_ (some 80) rfl rfl Try.func125 (by kernel_rfl) rfl #[.agg #[.bool t187, .int .u64 t188, .int .i64 t189, .bool false, .bool t191]] rfl (by (try simp only [List.map_toArray, List.map_cons, List.map_nil]); first | done | rfl | (simp only [List.length_drop, List.length_take]; rfl)) ?_; (with_reducible refine (latheref02_up.calls t187 t188 t189 false t191 t202 t203 t204 t205 t206 _ A78.out).mono ?_); clear A78; rintro e w99 ⟨rfl, hb⟩; refine ⟨_, rfl, ?_⟩; have n0_ := Aside0.mk (blk_below (g := gb186) (o := .cells #[.bool t197, .int .u64 t198, .int .i64 t199, .bool t200, .bool t201] 129 (0, 0)) (by (with_reducible repeat (first | refine blk_drewN ?_ _ | refine blk_drew ?_ | refine blk_alloc ?_ _)); refine blk_put (cs := #[.bool t197, .int .u64 t198, .int .i64 t199, .bool t200, .bool t185]) ?_ 4 _ rfl; (with_reducible repeat (first | refine blk_drewN ?_ _ | refine blk_drew ?_ | refine blk_alloc ?_ _)); refine blk_put (cs := #[.bool t197, .int .u64 t198, .int .i64 t199, .bool t184, .bool t185]) ?_ 3 _ rfl; (with_reducible repeat (first | refine blk_drewN ?_ _ | refine blk_drew ?_ | refine blk_alloc ?_ _)); refine blk_put (cs := #[.bool t197, .int .u64 t198, .int .i64 t183, .bool t184, .bool t185]) ?_ 2 _ rfl; (with_reducible repeat (first | refine blk_drewN ?_ _ | refine blk_drew ?_ | refine blk_alloc ?_ _)); refine blk_put (cs := #[.bool t197, .int .u64 t182, .int .i64 t183, .bool t184, .bool t185]) ?_ 1 _ rfl; (with_reducible repeat (first | refine blk_drewN ?_ _ | refine blk_drew ?_ | refine blk_alloc ?_ _)); refine blk_put (cs := #[.bool t181, .int .u64 t182, .int .i64 t183, .bool t184, .bool t185]) ?_ 0 _ rfl; (with_reducible repeat (first | refine blk_drewN ?_ _ | refine blk_drew ?_ | refine blk_alloc ?_ _)); exact BK186.out) hb); have n1_ := Aside0.mk (blk_below (g := gb192) (o := .cells #[.bool t187, .int .u64 t188, .int .i64 t189, .bool false, .bool t191] 129 (0, 0)) (by (with_reducible repeat (first | refine blk_drewN ?_ _ | refine blk_drew ?_ | refine blk_alloc ?_ _)); refine blk_far ?_ NB192_186.out _; (with_reducible repeat (first | refine blk_drewN ?_ _ | refine blk_drew ?_ | refine blk_alloc ?_ _)); refine blk_far ?_ NB192_186.out _; (with_reducible repeat (first | refine blk_drewN ?_ _ | refine blk_drew ?_ | refine blk_alloc ?_ _)); refine blk_far ?_ NB192_186.out _; (with_reducible repeat (first | refine blk_drewN ?_ _ | refine blk_drew ?_ | refine blk_alloc ?_ _)); refine blk_far ?_ NB192_186.out _; (with_reducible repeat (first | refine blk_drewN ?_ _ | refine blk_drew ?_ | refine blk_alloc ?_ _)); refine blk_far ?_ NB192_186.out _; (with_reducible repeat (first | refine blk_drewN ?_ _ | refine blk_drew ?_ | refine blk_alloc ?_ _)); exact BK192.out) hb); have n2_ := Aside0.mk (below_step (by repeat (first | (with_reducible first | exact HB.out | apply below_alloc | apply pw_below_drewN | apply below_drew1 | refine below_set ?_ GE186.out | refine below_set ?_ GE192.out) | exact HB.out)) hb); clear BK186; clear BK192; clear HB; have BK186 := n0_; have BK192 := n1_; have HB := n2_; clear n0_ n1_ n2_; (try clear hb); (try clear hb2); (try clear hk); (try clear hi); have hcz100_0 : w99.cell? ⟨gb192, 0, none⟩ = some (.bool t187) := (blk_cell BK192.out 0).trans rfl; have hcz100_1 : w99.cell? ⟨gb192, 1, none⟩ = some (.int .u64 t188) := (blk_cell BK192.out 1).trans rfl; have hcz100_2 : w99.cell? ⟨gb192, 2, none⟩ = some (.int .i64 t189) := (blk_cell BK192.out 2).trans rfl; have hcz100_3 : w99.cell? ⟨gb192, 3, none⟩ = some (.bool false) := (blk_cell BK192.out 3).trans rfl; have hcz100_4 : w99.cell? ⟨gb192, 4, none⟩ = some (.bool t191) := (blk_cell BK192.out 4).trans rfl; have hfz100_0 := blk_frozen BK192.out 0; have hfz100_1 := blk_frozen BK192.out 1; have hfz100_2 := blk_frozen BK192.out 2; have hfz100_3 := blk_frozen BK192.out 3; have hfz100_4 := blk_frozen BK192.out 4; have hcz101_0 : w99.cell? ⟨gb186, 0, none⟩ = some (.bool t197) := (blk_cell BK186.out 0).trans rfl; have hcz101_1 : w99.cell? ⟨gb186, 1, none⟩ = some (.int .u64 t198) := (blk_cell BK186.out 1).trans rfl; have hcz101_2 : w99.cell? ⟨gb186, 2, none⟩ = some (.int .i64 t199) := (blk_cell BK186.out 2).trans rfl; have hcz101_3 : w99.cell? ⟨gb186, 3, none⟩ = some (.bool t200) := (blk_cell BK186.out 3).trans rfl; have hcz101_4 : w99.cell? ⟨gb186, 4, none⟩ = some (.bool t201) := (blk_cell BK186.out 4).trans rfl; have hfz101_0 := blk_frozen BK186.out 0; have hfz101_1 := blk_frozen BK186.out 1; have hfz101_2 := blk_frozen BK186.out 2; have hfz101_3 := blk_frozen BK186.out 3; have hfz101_4 := blk_frozen BK186.out 4) | ((with_reducible refine gate_callee (f := 123) rfl ?_); refine goesL_ (some 106) rfl rfl Try.func123 (by kernel_rfl) rfl #[.bool (t181 != t187), .int .u64 (IntKind.u64.wrap ((IntKind.u64.wrap (Int.tdiv (IntKind.u64.wrap (t198 * 274877906944)) t203)) * 2)), .int .i64 (wrap64 ((wrap64 (t199 - t204)) - 39))] rfl (by (try simp only [List.map_toArray, List.map_cons, List.map_nil]); first | done | rfl | (simp only [List.length_drop, List.length_take]; rfl)) ?_; (with_reducible refine (latheref02_Round.calls kj54 (t181 != t187) (IntKind.u64.wrap ((IntKind.u64.wrap (Int.tdiv (IntKind.u64.wrap (t198 * 274877906944)) t203)) * 2)) (wrap64 ((wrap64 (t199 - t204)) - 39)) t208 _ A92.out).mono ?_); clear A92; rintro e w102 ⟨rfl, hb⟩; refine ⟨_, rfl, ?_⟩; have n0_ := Aside0.mk (blk_below (g := gb186) (o := .cells #[.bool t197, .int .u64 t198, .int .i64 t199, .bool t200, .bool t201] 129 (0, 0)) (by (with_reducible repeat (first | refine blk_drewN ?_ _ | refine blk_drew ?_ | refine blk_alloc ?_ _)); refine blk_far ?_ NB186_192.out _; (with_reducible repeat (first | refine blk_drewN ?_ _ | refine blk_drew ?_ | refine blk_alloc ?_ _)); refine blk_far ?_ NB186_192.out _; (with_reducible repeat (first | refine blk_drewN ?_ _ | refine blk_drew ?_ | refine blk_alloc ?_ _)); refine blk_far ?_ NB186_192.out _; (with_reducible repeat (first | refine blk_drewN ?_ _ | refine blk_drew ?_ | refine blk_alloc ?_ _)); refine blk_far ?_ NB186_192.out _; (with_reducible repeat (first | refine blk_drewN ?_ _ | refine blk_drew ?_ | refine blk_alloc ?_ _)); refine blk_far ?_ NB186_192.out _; (with_reducible repeat (first | refine blk_drewN ?_ _ | refine blk_drew ?_ | refine blk_alloc ?_ _)); exact BK186.out) hb); have n1_ := Aside0.mk (blk_below (g := gb192) (o := .cells #[.bool t202, .int .u64 t203, .int .i64 t204, .bool t205, .bool t206] 129 (0, 0)) (by (with_reducible repeat (first | refine blk_drewN ?_ _ | refine blk_drew ?_ | refine blk_alloc ?_ _)); refine blk_put (cs := #[.bool t202, .int .u64 t203, .int .i64 t204, .bool t205, .bool t191]) ?_ 4 _ rfl; (with_reducible repeat (first | refine blk_drewN ?_ _ | refine blk_drew ?_ | refine blk_alloc ?_ _)); refine blk_put (cs := #[.bool t202, .int .u64 t203, .int .i64 t204, .bool false, .bool t191]) ?_ 3 _ rfl; (with_reducible repeat (first | refine blk_drewN ?_ _ | refine blk_drew ?_ | refine blk_alloc ?_ _)); refine blk_put (cs := #[.bool t202, .int .u64 t203, .int .i64 t189, .bool false, .bool t191]) ?_ 2 _ rfl; (with_reducible repeat (first | refine blk_drewN ?_ _ | refine blk_drew ?_ | refine blk_alloc ?_ _)); refine blk_put (cs := #[.bool t202, .int .u64 t188, .int .i64 t189, .bool false, .bool t191]) ?_ 1 _ rfl; (with_reducible repeat (first | refine blk_drewN ?_ _ | refine blk_drew ?_ | refine blk_alloc ?_ _)); refine blk_put (cs := #[.bool t187, .int .u64 t188, .int .i64 t189, .bool false, .bool t191]) ?_ 0 _ rfl; (with_reducible repeat (first | refine blk_drewN ?_ _ | refine blk_drew ?_ | refine blk_alloc ?_ _)); exact BK192.out) hb); have n2_ := Aside0.mk (below_step (by repeat (first | (with_reducible first | exact HB.out | apply below_alloc | apply pw_below_drewN | apply below_drew1 | refine below_set ?_ GE186.out | refine below_set ?_ GE192.out) | exact HB.out)) hb); clear BK186; clear BK192; clear HB; have BK186 := n0_; have BK192 := n1_; have HB := n2_; clear n0_ n1_ n2_; (try clear hb); (try clear hb2); (try clear hk); (try clear hi)))
                      go_ret
                      exact ⟨by first | rfl | (simp [errW_none, errW_some] <;> rfl) | (simp [*, errW_none, errW_some] <;> rfl), by repeat (first | (with_reducible first | exact HB.out | apply below_alloc | apply pw_below_drewN | apply below_drew1 | refine below_set ?_ GE186.out | refine below_set ?_ GE192.out) | exact HB.out)⟩

end Go.Proofs.Ytmfladkimmnccaa.PG
