/- The functions of the program that a statement reaches, as plain functions, and that the machine's calls do what these say. No condition. (Printed by a program.) -/
import Derived.Test.YtmfladkimmnccaaDoorPWx0
import Derived.Test.YtmfladkimmnccaaDoorPWx6
import Derived.Test.YtmfladkimmnccaaDoorWal
namespace Go.Proofs.YtmfladkimmnccaaDoor.PW
open Go.RowKit Go.Proofs.YtmfladkimmnccaaDoorW.PrintWords Go.Proofs.YtmfladkimmnccaaDoorW.PrintLast Go.Proofs.YtmfladkimmnccaaDoorW.PrintMore Go.Proofs.YtmfladkimmnccaaDoor.Sht
attribute [local go_sem] max2_int min2_int max_two min_two max_three min_three max_four min_four   -- for this text's walks alone
set_option linter.unusedVariables false
set_option linter.unusedSimpArgs false

/-! ### latheref02_nan: function 46 -/
def latheref02_nan.f (a0_0 : Bool) (a0_1 : Int) (a0_2 : Int) (a0_3 : Bool) (a0_4 : Bool) (a1_0 : Bool) (a1_1 : Int) (a1_2 : Int) (a1_3 : Bool) (a1_4 : Bool) : Option (Bool) := if a0_4 = true then (some true) else (some a1_4)
set_option maxHeartbeats 8000000 in
set_option maxRecDepth 100000 in
theorem latheref02_nan.calls (a0_0 : Bool) (a0_1 : Int) (a0_2 : Int) (a0_3 : Bool) (a0_4 : Bool) (a1_0 : Bool) (a1_1 : Int) (a1_2 : Int) (a1_3 : Bool) (a1_4 : Bool) (r : Bool) (w : World) (h : latheref02_nan.f a0_0 a0_1 a0_2 a0_3 a0_4 a1_0 a1_1 a1_2 a1_3 a1_4 = some r) :
  Calls Tryd.prog 46 #[.agg #[.bool a0_0, .int .u64 a0_1, .int .i64 a0_2, .bool a0_3, .bool a0_4], .agg #[.bool a1_0, .int .u64 a1_1, .int .i64 a1_2, .bool a1_3, .bool a1_4]] w fun e w' => e = .returned (.bool r) ∧ Below w.heap.size w w' := by
 have hu62 := Tryd.underlying62
 have HB := Aside0.mk (Below.refl w.heap.size w)
 have H : (if a0_4 = true then (some true) else (some a1_4)) = some r := h
 clear h
 by_cases c3 : a0_4 = true
 ·subst c3
  rw [if_pos rfl] at H
  obtain rfl := Option.some.inj H
  go_enter Tryd.func46, Tryd.ntmps46
  go_wp2_with (first | ((with_reducible refine gate_dst (N := 2) rfl ?_); refine box_event ?hg (N := 2) ?hd (cs := #[.bool a0_0, .int .u64 a0_1, .int .i64 a0_2, .bool a0_3, .bool true]) (t := 62) ?hr ?_; (case hd => rfl); (case hg => rfl); (case hr => first | (go_simp; done) | (go_simp; rfl)); intro gb235 hg w4 hbox hb; have BK235 := Aside0.mk (hbox); have GW235 := bsz (w := w) hg; have GE235 := bsz (w := w) hg; replace HB := bst hb; clear hb hbox hg) | ((with_reducible refine gate_dst (N := 3) rfl ?_); refine box_event ?hg (N := 3) ?hd (cs := #[.bool a1_0, .int .u64 a1_1, .int .i64 a1_2, .bool a1_3, .bool a1_4]) (t := 62) ?hr ?_; (case hd => rfl); (case hg => rfl); (case hr => first | (go_simp; done) | (go_simp; rfl)); intro gb236 hg w5 hbox hb; have BK236 := Aside0.mk (hbox); have GW236 := bsz (w := w) hg; have GE236 := bsz (w := w) hg; have NB235_236 := Aside0.mk ((by rw [hg]; exact Nat.ne_of_lt (blk_lt (g := gb235) (o := .cells #[.bool a0_0, .int .u64 a0_1, .int .i64 a0_2, .bool a0_3, .bool true] 62 (0, 0)) bkk) : gb235 ≠ gb236)); have NB236_235 := Aside0.mk ((by rw [hg]; exact Nat.ne_of_gt (blk_lt (g := gb235) (o := .cells #[.bool a0_0, .int .u64 a0_1, .int .i64 a0_2, .bool a0_3, .bool true] 62 (0, 0)) bkk) : gb236 ≠ gb235)); replace BK235 := bks BK235 hb; replace HB := bst hb; clear hb hbox hg; have hnb6 := NB235_236.out; have hnc6 := NB236_235.out; obtain ⟨_, _, _, _, _, _, _, _, _, _⟩ := bx5 BK235.out))
  go_ret
  exact fin_
 replace c3 := Bool.eq_false_iff.mpr c3
 subst c3
 rw [if_neg (show ¬ (false = true) by decide)] at H
 obtain rfl := Option.some.inj H
 go_enter Tryd.func46, Tryd.ntmps46
 go_wp2_with (first | ((with_reducible refine gate_dst (N := 2) rfl ?_); refine box_event ?hg (N := 2) ?hd (cs := #[.bool a0_0, .int .u64 a0_1, .int .i64 a0_2, .bool a0_3, .bool false]) (t := 62) ?hr ?_; (case hd => rfl); (case hg => rfl); (case hr => first | (go_simp; done) | (go_simp; rfl)); intro gb235 hg w8 hbox hb; have BK235 := Aside0.mk (hbox); have GW235 := bsz (w := w) hg; have GE235 := bsz (w := w) hg; replace HB := bst hb; clear hb hbox hg) | ((with_reducible refine gate_dst (N := 3) rfl ?_); refine box_event ?hg (N := 3) ?hd (cs := #[.bool a1_0, .int .u64 a1_1, .int .i64 a1_2, .bool a1_3, .bool a1_4]) (t := 62) ?hr ?_; (case hd => rfl); (case hg => rfl); (case hr => first | (go_simp; done) | (go_simp; rfl)); intro gb236 hg w9 hbox hb; have BK236 := Aside0.mk (hbox); have GW236 := bsz (w := w) hg; have GE236 := bsz (w := w) hg; have NB235_236 := Aside0.mk ((by rw [hg]; exact Nat.ne_of_lt (blk_lt (g := gb235) (o := .cells #[.bool a0_0, .int .u64 a0_1, .int .i64 a0_2, .bool a0_3, .bool false] 62 (0, 0)) bkk) : gb235 ≠ gb236)); have NB236_235 := Aside0.mk ((by rw [hg]; exact Nat.ne_of_gt (blk_lt (g := gb235) (o := .cells #[.bool a0_0, .int .u64 a0_1, .int .i64 a0_2, .bool a0_3, .bool false] 62 (0, 0)) bkk) : gb236 ≠ gb235)); replace BK235 := bks BK235 hb; replace HB := bst hb; clear hb hbox hg; have hnb10 := NB235_236.out; have hnc10 := NB236_235.out; obtain ⟨_, _, _, _, _, _, _, _, _, _⟩ := bx5 BK235.out; obtain ⟨_, _, _, _, _, _, _, _, _, _⟩ := bx5 BK236.out))
 go_ret
 exact fin_

/-! ### latheref02_Of: function 47 (given) -/
def latheref02_Of.f (a0 : Int) : Option (Bool × Int × Int × Bool × Bool) := if 0 ≤ a0 ∧ a0 ≤ 4294967295 then some (Ref.parts a0.toNat) else none
theorem latheref02_Of.calls (a0 : Int) (r1 : Bool) (r2 : Int) (r3 : Int) (r4 : Bool) (r5 : Bool) (w : World) (h : latheref02_Of.f a0 = some (r1, r2, r3, r4, r5)) :
  Calls Tryd.prog 47 #[.int .i64 a0] w fun e w' => e = .returned (.agg #[.bool r1, .int .u64 r2, .int .i64 r3, .bool r4, .bool r5]) ∧ Below w.heap.size w w' := by
 unfold latheref02_Of.f at h
 split at h
 case isFalse => cases h
 rename_i g
 have h := Option.some.inj h
 exact Ref.Of_given a0 w g.1 g.2 h

/-! ### latheref02_nought: function 48 -/
def latheref02_nought.f (a0 : Int) : Option (Bool) := some ((Go.bits .andNot .i64 a0 2147483648) == 0)
set_option maxHeartbeats 8000000 in
set_option maxRecDepth 100000 in
theorem latheref02_nought.calls (a0 : Int) (r : Bool) (w : World) (h : latheref02_nought.f a0 = some r) :
  Calls Tryd.prog 48 #[.int .i64 a0] w fun e w' => e = .returned (.bool r) ∧ Drawn0 w w' := by
 have H : (some ((Go.bits .andNot .i64 a0 2147483648) == 0)) = some r := h
 clear h
 obtain rfl := Option.some.inj H
 go_enter Tryd.func48, Tryd.ntmps48
 go_wp2
 go_ret
 exact ⟨by first | rfl | (simp; done) | (simp [*]; done), by repeat (first | exact Drawn0.refl _ | apply Drawn0.step)⟩

/-! ### latheref02_key: function 49 -/
def latheref02_key.f (a0 : Int) : Option (Int) := if (a0 / 2147483648) = 1 then (some (wrap64 ((wrap64 (-(Go.bits .andNot .i64 a0 2147483648))) - 1))) else (some (Go.bits .andNot .i64 a0 2147483648))
set_option maxHeartbeats 8000000 in
set_option maxRecDepth 100000 in
theorem latheref02_key.calls (a0 : Int) (r : Int) (w : World) (h : latheref02_key.f a0 = some r) :
  Calls Tryd.prog 49 #[.int .i64 a0] w fun e w' => e = .returned (.int .i64 r) ∧ Drawn0 w w' := by
 have H : (if (a0 / 2147483648) = 1 then (some (wrap64 ((wrap64 (-(Go.bits .andNot .i64 a0 2147483648))) - 1))) else (some (Go.bits .andNot .i64 a0 2147483648))) = some r := h
 clear h
 by_cases c2 : (a0 / 2147483648) = 1
 ·rw [if_pos c2] at H
  have c2b0 : ((a0 / 2147483648) == 1) = true := beq_iff_eq.mpr c2
  have c2b1 : ((a0 / 2147483648) != 1) = false := bne_eq_false_iff_eq.mpr c2
  clear c2
  obtain rfl := Option.some.inj H
  go_enter Tryd.func49, Tryd.ntmps49
  go_wp2
  go_ret
  exact ⟨by first | rfl | (simp; done) | (simp [*]; done), by repeat (first | exact Drawn0.refl _ | apply Drawn0.step)⟩
 rw [if_neg c2] at H
 have c2b0 : ((a0 / 2147483648) == 1) = false := beq_eq_false_iff_ne.mpr c2
 have c2b1 : ((a0 / 2147483648) != 1) = true := bne_iff_ne.mpr c2
 obtain rfl := Option.some.inj H
 go_enter Tryd.func49, Tryd.ntmps49
 go_wp2
 go_ret
 exact ⟨by first | rfl | (simp; done) | (simp [*]; done), by repeat (first | exact Drawn0.refl _ | apply Drawn0.step)⟩

end Go.Proofs.YtmfladkimmnccaaDoor.PW
