/- The contract of package sched's row at the other operations. No condition. -/
import Derived.Test.YtmfladkimmnccaaDoorRow
import Derived.Test.YtmfladkimmnccaaDoorPWxa
set_option linter.unusedVariables false
set_option linter.unusedSimpArgs false
namespace Go.Proofs.YtmfladkimmnccaaDoor.Row
open Go.RowKit Lathe Go.Proofs.YtmfladkimmnccaaDoor.PW Go.Proofs.YtmfladkimmnccaaDoorW.PrintWords Go.Proofs.YtmfladkimmnccaaDoorW.PrintMore Go.Proofs.YtmfladkimmnccaaDoor.Flo

set_option maxHeartbeats 8000000 in
set_option maxRecDepth 100000 in
theorem row_4 (A1 A2 A3 : Option Addr) (n1 n3 c1 c2 c3 : Nat) (l2 : List Int) (w : World) (hr : Kd.C (Kd.int .i64) w A2 l2.length l2) : Calls Tryd.prog 65 #[.agg #[.int .i64 4, .slice A1 n1 c1, .slice A2 l2.length c2, .slice A3 n3 c3]] w fun e w' => e = .returned (.bool (has n1 l2.length n3 2 1 && win (rd l2 0) 1 2147483647)) ∧ Below w.heap.size w w' := by
  have hmf : ∀ (fn : Fn) (first cap : Array Value) (w : World), (Instr.makeFunc fn first cap).run Tryd.prog w = .ok (.func fn first cap) w := fun _ _ _ _ => rfl
  generalize hn : l2.length = n2
  by_cases h3 : n2 = 1
  · subst h3
    rw [hn] at hr
    obtain ⟨ad, rfl, x0⟩ := Kd.at_int hr 0 (by decide) (by decide)
    replace x0 : w.cell? ad = some (.int .i64 (rd l2 0)) := x0
    have b0 : ad.block < w.heap.size := World.block_lt_of_cell? w _ x0
    have q0 := World.new_ne w _ x0
    generalize rd l2 0 = r0 at *
    clear hr
    go_enter Tryd.func65, Tryd.ntmps65
    go_wp2
    go_region_held3 (fun w' => w'.cell? ⟨w.heap.size, 1, none⟩ = some (.slice A1 n1 c1) ∧ w'.cell? ⟨w.heap.size, 2, none⟩ = some (.slice (some ad) 1 c2) ∧ w'.cell? ad = some (.int .i64 r0)) ((refine ⟨?_, ?_, ?_⟩) <;> (first | (go_simp; done) | (repeat (first | exact x0 | refine keepD ?_ | refine keepA ?_)))) (fail)
    all_goals go_wp2_with first
      | (go_at_call 80; refine (row1 _ _ _ _ _ n1 1 n3 c3 A3 _ (by go_simp) (by go_simp) (by go_simp)).mono ?_; rintro e w' ⟨rfl, rfl⟩)
      | (go_at_call 81; refine (row2 _ r0 _ 1 c2 ad _ (by go_simp) (by decide) (by decide) (by repeat (first | exact x0 | refine keepD ?_ | refine keepA ?_))).mono ?_; rintro e w' ⟨rfl, rfl⟩)
    all_goals go_ret
    all_goals (refine ⟨?_, by repeat (first | exact Below.refl _ _ | refine below_drew ?_ | refine below_alloc ?_ _)⟩)
    all_goals simp [*]
  · have hf : has n1 n2 n3 2 1 = false := by simp [has]; omega
    rw [hf, Bool.false_and]
    clear hr
    go_enter Tryd.func65, Tryd.ntmps65
    go_wp2
    go_region_held3 (fun w' => w'.cell? ⟨w.heap.size, 1, none⟩ = some (.slice A1 n1 c1) ∧ w'.cell? ⟨w.heap.size, 2, none⟩ = some (.slice A2 n2 c2)) (go_keep) (fail)
    all_goals go_wp2_with (go_at_call 80; refine (row1 _ _ _ _ _ n1 n2 n3 c3 A3 _ (by go_simp) (by go_simp) (by go_simp)).mono ?_; rintro e w' ⟨rfl, rfl⟩)
    all_goals go_ret
    all_goals (refine ⟨?_, by repeat (first | exact Below.refl _ _ | refine below_drew ?_ | refine below_alloc ?_ _)⟩)
    all_goals simp [*]
set_option maxHeartbeats 8000000 in
set_option maxRecDepth 100000 in
theorem row_7 (A1 A2 A3 : Option Addr) (n1 n3 c1 c2 c3 : Nat) (l2 : List Int) (w : World) (hr : Kd.C (Kd.int .i64) w A2 l2.length l2) : Calls Tryd.prog 65 #[.agg #[.int .i64 7, .slice A1 n1 c1, .slice A2 l2.length c2, .slice A3 n3 c3]] w fun e w' => e = .returned (.bool (has n1 l2.length n3 1 1 && win (rd l2 0) 1 2147483647)) ∧ Below w.heap.size w w' := by
  have hmf : ∀ (fn : Fn) (first cap : Array Value) (w : World), (Instr.makeFunc fn first cap).run Tryd.prog w = .ok (.func fn first cap) w := fun _ _ _ _ => rfl
  generalize hn : l2.length = n2
  by_cases h3 : n2 = 1
  · subst h3
    rw [hn] at hr
    obtain ⟨ad, rfl, x0⟩ := Kd.at_int hr 0 (by decide) (by decide)
    replace x0 : w.cell? ad = some (.int .i64 (rd l2 0)) := x0
    have b0 : ad.block < w.heap.size := World.block_lt_of_cell? w _ x0
    have q0 := World.new_ne w _ x0
    generalize rd l2 0 = r0 at *
    clear hr
    go_enter Tryd.func65, Tryd.ntmps65
    go_wp2
    go_region_held3 (fun w' => w'.cell? ⟨w.heap.size, 1, none⟩ = some (.slice A1 n1 c1) ∧ w'.cell? ⟨w.heap.size, 2, none⟩ = some (.slice (some ad) 1 c2) ∧ w'.cell? ad = some (.int .i64 r0)) ((refine ⟨?_, ?_, ?_⟩) <;> (first | (go_simp; done) | (repeat (first | exact x0 | refine keepD ?_ | refine keepA ?_)))) (fail)
    all_goals go_wp2_with first
      | (go_at_call 80; refine (row1 _ _ _ _ _ n1 1 n3 c3 A3 _ (by go_simp) (by go_simp) (by go_simp)).mono ?_; rintro e w' ⟨rfl, rfl⟩)
      | (go_at_call 81; refine (row2 _ r0 _ 1 c2 ad _ (by go_simp) (by decide) (by decide) (by repeat (first | exact x0 | refine keepD ?_ | refine keepA ?_))).mono ?_; rintro e w' ⟨rfl, rfl⟩)
    all_goals go_ret
    all_goals (refine ⟨?_, by repeat (first | exact Below.refl _ _ | refine below_drew ?_ | refine below_alloc ?_ _)⟩)
    all_goals simp [*]
  · have hf : has n1 n2 n3 1 1 = false := by simp [has]; omega
    rw [hf, Bool.false_and]
    clear hr
    go_enter Tryd.func65, Tryd.ntmps65
    go_wp2
    go_region_held3 (fun w' => w'.cell? ⟨w.heap.size, 1, none⟩ = some (.slice A1 n1 c1) ∧ w'.cell? ⟨w.heap.size, 2, none⟩ = some (.slice A2 n2 c2)) (go_keep) (fail)
    all_goals go_wp2_with (go_at_call 80; refine (row1 _ _ _ _ _ n1 n2 n3 c3 A3 _ (by go_simp) (by go_simp) (by go_simp)).mono ?_; rintro e w' ⟨rfl, rfl⟩)
    all_goals go_ret
    all_goals (refine ⟨?_, by repeat (first | exact Below.refl _ _ | refine below_drew ?_ | refine below_alloc ?_ _)⟩)
    all_goals simp [*]
set_option maxHeartbeats 8000000 in
set_option maxRecDepth 100000 in
theorem row_8 (A1 A2 A3 : Option Addr) (n1 n3 c1 c2 c3 : Nat) (l2 : List Int) (w : World) (hr : Kd.C (Kd.int .i64) w A2 l2.length l2) : Calls Tryd.prog 65 #[.agg #[.int .i64 8, .slice A1 n1 c1, .slice A2 l2.length c2, .slice A3 n3 c3]] w fun e w' => e = .returned (.bool (decide (n1 = 0) && decide (l2.length = 0) && ((n3 : Int) == 2))) ∧ Below w.heap.size w w' := by
  have hmf : ∀ (fn : Fn) (first cap : Array Value) (w : World), (Instr.makeFunc fn first cap).run Tryd.prog w = .ok (.func fn first cap) w := fun _ _ _ _ => rfl
  generalize hn : l2.length = n2
  clear hr
  go_enter Tryd.func65, Tryd.ntmps65
  go_wp2
  go_region_held3 (fun w' => w'.cell? ⟨w.heap.size, 1, none⟩ = some (.slice A1 n1 c1) ∧ w'.cell? ⟨w.heap.size, 2, none⟩ = some (.slice A2 n2 c2) ∧ w'.cell? ⟨w.heap.size, 3, none⟩ = some (.slice A3 n3 c3)) (go_keep) (fail)
  all_goals go_wp2
  all_goals go_ret
  all_goals (refine ⟨?_, by repeat (first | exact Below.refl _ _ | refine below_drew ?_ | refine below_alloc ?_ _)⟩)
  all_goals simp [*]
set_option maxHeartbeats 8000000 in
set_option maxRecDepth 100000 in
theorem row_9 (A1 A2 A3 : Option Addr) (n1 n3 c1 c2 c3 : Nat) (l2 : List Int) (w : World) (hr : Kd.C (Kd.int .i64) w A2 l2.length l2) : Calls Tryd.prog 65 #[.agg #[.int .i64 9, .slice A1 n1 c1, .slice A2 l2.length c2, .slice A3 n3 c3]] w fun e w' => e = .returned (.bool (decide (n1 = 0) && decide (l2.length = 0) && ((n3 : Int) == 2))) ∧ Below w.heap.size w w' := by
  have hmf : ∀ (fn : Fn) (first cap : Array Value) (w : World), (Instr.makeFunc fn first cap).run Tryd.prog w = .ok (.func fn first cap) w := fun _ _ _ _ => rfl
  generalize hn : l2.length = n2
  clear hr
  go_enter Tryd.func65, Tryd.ntmps65
  go_wp2
  go_region_held3 (fun w' => w'.cell? ⟨w.heap.size, 1, none⟩ = some (.slice A1 n1 c1) ∧ w'.cell? ⟨w.heap.size, 2, none⟩ = some (.slice A2 n2 c2) ∧ w'.cell? ⟨w.heap.size, 3, none⟩ = some (.slice A3 n3 c3)) (go_keep) (fail)
  all_goals go_wp2
  all_goals go_ret
  all_goals (refine ⟨?_, by repeat (first | exact Below.refl _ _ | refine below_drew ?_ | refine below_alloc ?_ _)⟩)
  all_goals simp [*]
set_option maxHeartbeats 8000000 in
set_option maxRecDepth 100000 in
theorem row_10 (A1 A2 A3 : Option Addr) (n1 n3 c1 c2 c3 : Nat) (l2 : List Int) (w : World) (hr : Kd.C (Kd.int .i64) w A2 l2.length l2) : Calls Tryd.prog 65 #[.agg #[.int .i64 10, .slice A1 n1 c1, .slice A2 l2.length c2, .slice A3 n3 c3]] w fun e w' => e = .returned (.bool (decide (n1 = 0) && decide (l2.length = 0) && ((n3 : Int) == 2))) ∧ Below w.heap.size w w' := by
  have hmf : ∀ (fn : Fn) (first cap : Array Value) (w : World), (Instr.makeFunc fn first cap).run Tryd.prog w = .ok (.func fn first cap) w := fun _ _ _ _ => rfl
  generalize hn : l2.length = n2
  clear hr
  go_enter Tryd.func65, Tryd.ntmps65
  go_wp2
  go_region_held3 (fun w' => w'.cell? ⟨w.heap.size, 1, none⟩ = some (.slice A1 n1 c1) ∧ w'.cell? ⟨w.heap.size, 2, none⟩ = some (.slice A2 n2 c2) ∧ w'.cell? ⟨w.heap.size, 3, none⟩ = some (.slice A3 n3 c3)) (go_keep) (fail)
  all_goals go_wp2
  all_goals go_ret
  all_goals (refine ⟨?_, by repeat (first | exact Below.refl _ _ | refine below_drew ?_ | refine below_alloc ?_ _)⟩)
  all_goals simp [*]
set_option maxHeartbeats 8000000 in
set_option maxRecDepth 100000 in
theorem row_11 (A1 A2 A3 : Option Addr) (n1 n3 c1 c2 c3 : Nat) (l2 : List Int) (w : World) (hr : Kd.C (Kd.int .i64) w A2 l2.length l2) : Calls Tryd.prog 65 #[.agg #[.int .i64 11, .slice A1 n1 c1, .slice A2 l2.length c2, .slice A3 n3 c3]] w fun e w' => e = .returned (.bool (decide (n1 = 0) && decide (l2.length = 0) && ((n3 : Int) == 2))) ∧ Below w.heap.size w w' := by
  have hmf : ∀ (fn : Fn) (first cap : Array Value) (w : World), (Instr.makeFunc fn first cap).run Tryd.prog w = .ok (.func fn first cap) w := fun _ _ _ _ => rfl
  generalize hn : l2.length = n2
  clear hr
  go_enter Tryd.func65, Tryd.ntmps65
  go_wp2
  go_region_held3 (fun w' => w'.cell? ⟨w.heap.size, 1, none⟩ = some (.slice A1 n1 c1) ∧ w'.cell? ⟨w.heap.size, 2, none⟩ = some (.slice A2 n2 c2) ∧ w'.cell? ⟨w.heap.size, 3, none⟩ = some (.slice A3 n3 c3)) (go_keep) (fail)
  all_goals go_wp2
  all_goals go_ret
  all_goals (refine ⟨?_, by repeat (first | exact Below.refl _ _ | refine below_drew ?_ | refine below_alloc ?_ _)⟩)
  all_goals simp [*]
set_option maxHeartbeats 8000000 in
set_option maxRecDepth 100000 in
theorem row_12 (A1 A2 A3 : Option Addr) (n1 n3 c1 c2 c3 : Nat) (l2 : List Int) (w : World) (hr : Kd.C (Kd.int .i64) w A2 l2.length l2) : Calls Tryd.prog 65 #[.agg #[.int .i64 12, .slice A1 n1 c1, .slice A2 l2.length c2, .slice A3 n3 c3]] w fun e w' => e = .returned (.bool (decide (n1 = 0) && decide (l2.length = 1) && win (rd l2 0) 0 2147483647 && ((n3 : Int) == 1))) ∧ Below w.heap.size w w' := by
  have hmf : ∀ (fn : Fn) (first cap : Array Value) (w : World), (Instr.makeFunc fn first cap).run Tryd.prog w = .ok (.func fn first cap) w := fun _ _ _ _ => rfl
  generalize hn : l2.length = n2
  by_cases h3 : n2 = 1
  · subst h3
    rw [hn] at hr
    obtain ⟨ad, rfl, x0⟩ := Kd.at_int hr 0 (by decide) (by decide)
    replace x0 : w.cell? ad = some (.int .i64 (rd l2 0)) := x0
    have b0 : ad.block < w.heap.size := World.block_lt_of_cell? w _ x0
    have q0 := World.new_ne w _ x0
    generalize rd l2 0 = r0 at *
    clear hr
    go_enter Tryd.func65, Tryd.ntmps65
    go_wp2
    go_region_held3 (fun w' => w'.cell? ⟨w.heap.size, 1, none⟩ = some (.slice A1 n1 c1) ∧ w'.cell? ⟨w.heap.size, 2, none⟩ = some (.slice (some ad) 1 c2) ∧ w'.cell? ⟨w.heap.size, 3, none⟩ = some (.slice A3 n3 c3) ∧ w'.cell? ad = some (.int .i64 r0)) ((refine ⟨?_, ?_, ?_, ?_⟩) <;> (first | (go_simp; done) | (repeat (first | exact x0 | refine keepD ?_ | refine keepA ?_)))) (fail)
    all_goals go_wp2_with (go_at_call 82; refine (row3 _ r0 _ 1 c2 ad _ (by go_simp) (by decide) (by decide) (by repeat (first | exact x0 | refine keepD ?_ | refine keepA ?_))).mono ?_; rintro e w' ⟨rfl, rfl⟩)
    all_goals go_ret
    all_goals (refine ⟨?_, by repeat (first | exact Below.refl _ _ | refine below_drew ?_ | refine below_alloc ?_ _)⟩)
    all_goals simp [*]
  · clear hr
    go_enter Tryd.func65, Tryd.ntmps65
    go_wp2
    go_region_held3 (fun w' => w'.cell? ⟨w.heap.size, 1, none⟩ = some (.slice A1 n1 c1) ∧ w'.cell? ⟨w.heap.size, 2, none⟩ = some (.slice A2 n2 c2) ∧ w'.cell? ⟨w.heap.size, 3, none⟩ = some (.slice A3 n3 c3)) (go_keep) (fail)
    all_goals go_wp2
    all_goals go_ret
    all_goals (refine ⟨?_, by repeat (first | exact Below.refl _ _ | refine below_drew ?_ | refine below_alloc ?_ _)⟩)
    all_goals simp [*]
set_option maxHeartbeats 8000000 in
set_option maxRecDepth 100000 in
theorem row_13 (A1 A2 A3 : Option Addr) (n1 n3 c1 c2 c3 : Nat) (l2 : List Int) (w : World) (hr : Kd.C (Kd.int .i64) w A2 l2.length l2) : Calls Tryd.prog 65 #[.agg #[.int .i64 13, .slice A1 n1 c1, .slice A2 l2.length c2, .slice A3 n3 c3]] w fun e w' => e = .returned (.bool (decide (n1 = 0) && decide (l2.length = 1) && win (rd l2 0) 0 2147483647 && ((n3 : Int) == 1))) ∧ Below w.heap.size w w' := by
  have hmf : ∀ (fn : Fn) (first cap : Array Value) (w : World), (Instr.makeFunc fn first cap).run Tryd.prog w = .ok (.func fn first cap) w := fun _ _ _ _ => rfl
  generalize hn : l2.length = n2
  by_cases h3 : n2 = 1
  · subst h3
    rw [hn] at hr
    obtain ⟨ad, rfl, x0⟩ := Kd.at_int hr 0 (by decide) (by decide)
    replace x0 : w.cell? ad = some (.int .i64 (rd l2 0)) := x0
    have b0 : ad.block < w.heap.size := World.block_lt_of_cell? w _ x0
    have q0 := World.new_ne w _ x0
    generalize rd l2 0 = r0 at *
    clear hr
    go_enter Tryd.func65, Tryd.ntmps65
    go_wp2
    go_region_held3 (fun w' => w'.cell? ⟨w.heap.size, 1, none⟩ = some (.slice A1 n1 c1) ∧ w'.cell? ⟨w.heap.size, 2, none⟩ = some (.slice (some ad) 1 c2) ∧ w'.cell? ⟨w.heap.size, 3, none⟩ = some (.slice A3 n3 c3) ∧ w'.cell? ad = some (.int .i64 r0)) ((refine ⟨?_, ?_, ?_, ?_⟩) <;> (first | (go_simp; done) | (repeat (first | exact x0 | refine keepD ?_ | refine keepA ?_)))) (fail)
    all_goals go_wp2_with (go_at_call 82; refine (row3 _ r0 _ 1 c2 ad _ (by go_simp) (by decide) (by decide) (by repeat (first | exact x0 | refine keepD ?_ | refine keepA ?_))).mono ?_; rintro e w' ⟨rfl, rfl⟩)
    all_goals go_ret
    all_goals (refine ⟨?_, by repeat (first | exact Below.refl _ _ | refine below_drew ?_ | refine below_alloc ?_ _)⟩)
    all_goals simp [*]
  · clear hr
    go_enter Tryd.func65, Tryd.ntmps65
    go_wp2
    go_region_held3 (fun w' => w'.cell? ⟨w.heap.size, 1, none⟩ = some (.slice A1 n1 c1) ∧ w'.cell? ⟨w.heap.size, 2, none⟩ = some (.slice A2 n2 c2) ∧ w'.cell? ⟨w.heap.size, 3, none⟩ = some (.slice A3 n3 c3)) (go_keep) (fail)
    all_goals go_wp2
    all_goals go_ret
    all_goals (refine ⟨?_, by repeat (first | exact Below.refl _ _ | refine below_drew ?_ | refine below_alloc ?_ _)⟩)
    all_goals simp [*]
end Go.Proofs.YtmfladkimmnccaaDoor.Row
set_option linter.unusedVariables false
set_option linter.unusedSimpArgs false
namespace Go.Proofs.YtmfladkimmnccaaDoor.Row
open Go.RowKit Lathe Go.Proofs.YtmfladkimmnccaaDoor.PW Go.Proofs.YtmfladkimmnccaaDoorW.PrintWords Go.Proofs.YtmfladkimmnccaaDoorW.PrintMore Go.Proofs.YtmfladkimmnccaaDoor.Flo

set_option maxHeartbeats 8000000 in
set_option maxRecDepth 100000 in
theorem row_3_fits (A1 A2 A3 : Option Addr) (n3 c1 c2 c3 : Nat) (ad be : Addr) (r0 r1 y : Int) (w : World) (x0 : w.cell? ad = some (.int .i64 r0)) (x1 : w.cell? (ad.add 1) = some (.int .i64 r1)) (z1 : w.cell? (be.add 1) = some (.int .u32 y)) :
    Calls Tryd.prog 65 #[.agg #[.int .i64 3, .slice (some be) 2 c1, .slice (some ad) 2 c2, .slice A3 n3 c3]] w fun e w' => e = .returned (.bool (has 2 2 n3 2 2 && (flt 0 y.toNat && (win r0 1 2147483647 && win r1 0 2147483647)))) ∧ Below w.heap.size w w' := by
  have hmf : ∀ (fn : Fn) (first cap : Array Value) (w : World), (Instr.makeFunc fn first cap).run Tryd.prog w = .ok (.func fn first cap) w := fun _ _ _ _ => rfl
  have ea : be.add 1 = ⟨be.block, be.off + 1, none⟩ := by simp [Addr.add]
  rw [ea] at z1
  clear ea
  have b0 : ad.block < w.heap.size := World.block_lt_of_cell? w _ x0
  have q0 := World.new_ne w _ x0
  have q1 := World.new_ne w _ x1
  have q2 := World.new_ne w _ z1
  go_enter Tryd.func65, Tryd.ntmps65
  go_wp2
  go_region_held3 (fun w' => w'.cell? ⟨w.heap.size, 1, none⟩ = some (.slice (some be) 2 c1) ∧ w'.cell? ⟨w.heap.size, 2, none⟩ = some (.slice (some ad) 2 c2) ∧ w'.cell? ad = some (.int .i64 r0) ∧ w'.cell? (ad.add 1) = some (.int .i64 r1) ∧ w'.cell? ⟨be.block, be.off + 1, none⟩ = some (.int .u32 y)) ((refine ⟨?_, ?_, ?_, ?_, ?_⟩) <;> (first | (go_simp; done) | (repeat (first | exact x0 | exact x1 | exact z1 | refine keepD ?_ | refine keepA ?_)))) (fail)
  all_goals go_wp2_with first
    | (go_at_call 38; refine (Less _ _ _).mono ?_; rintro e w' ⟨rfl, rfl⟩)
    | (go_at_call 80; refine (row1 _ _ _ _ _ 2 2 n3 c3 A3 _ (by go_simp) (by go_simp) (by go_simp)).mono ?_; rintro e w' ⟨rfl, rfl⟩)
    | (go_at_call 81; refine (row2 _ r0 _ 2 c2 ad _ (by go_simp) (by decide) (by decide) (by repeat (first | exact x0 | exact x1 | exact z1 | refine keepD ?_ | refine keepA ?_))).mono ?_; rintro e w' ⟨rfl, rfl⟩)
    | (go_at_call 82; refine (row3 _ r1 _ 2 c2 ad _ (by go_simp) (by decide) (by decide) (by repeat (first | exact x0 | exact x1 | exact z1 | refine keepD ?_ | refine keepA ?_))).mono ?_; rintro e w' ⟨rfl, rfl⟩)
  all_goals go_ret
  all_goals (refine ⟨?_, by repeat (first | exact Below.refl _ _ | refine below_drew ?_ | refine below_alloc ?_ _)⟩)
  all_goals simp [*]
end Go.Proofs.YtmfladkimmnccaaDoor.Row
set_option linter.unusedVariables false
set_option linter.unusedSimpArgs false
namespace Go.Proofs.YtmfladkimmnccaaDoor.Row
open Go.RowKit Lathe Go.Proofs.YtmfladkimmnccaaDoor.PW Go.Proofs.YtmfladkimmnccaaDoorW.PrintWords Go.Proofs.YtmfladkimmnccaaDoorW.PrintMore Go.Proofs.YtmfladkimmnccaaDoor.Flo

set_option maxHeartbeats 8000000 in
set_option maxRecDepth 100000 in
theorem row_5 (A1 A2 A3 : Option Addr) (n1 n3 c1 c2 c3 k : Nat) (l2 : List Int) (r : Bool) (w : World) (hr : Kd.C (Kd.int .i64) w A2 l2.length l2) (hc : l2.length ≤ c2) (hs : l2.length ≤ 9223372036854775806) (h : sched_rising.f k l2 = some r) : Calls Tryd.prog 65 #[.agg #[.int .i64 5, .slice A1 n1 c1, .slice A2 l2.length c2, .slice A3 n3 c3]] w fun e w' => e = .returned (.bool (has n1 l2.length n3 ((l2.length : Int) + 1) l2.length && r)) ∧ Below w.heap.size w w' := by
  have hmf : ∀ (fn : Fn) (first cap : Array Value) (w : World), (Instr.makeFunc fn first cap).run Tryd.prog w = .ok (.func fn first cap) w := fun _ _ _ _ => rfl
  have hrise : ∀ w1, Below w.heap.size w w1 → Calls Tryd.prog 83 #[.slice A2 l2.length c2] w1 fun e w' => e = .returned (.bool r) ∧ Drawn0 w1 w' := fun w1 hb => (sched_rising.calls k A2 c2 l2 r w1 (Kd.C_below hr hb) hc h)
  go_enter Tryd.func65, Tryd.ntmps65
  go_wp2
  go_region_held3 (fun w' => w'.cell? ⟨w.heap.size, 1, none⟩ = some (.slice A1 n1 c1) ∧ w'.cell? ⟨w.heap.size, 2, none⟩ = some (.slice A2 l2.length c2) ∧ w'.cell? ⟨w.heap.size, 3, none⟩ = some (.slice A3 n3 c3)) (go_keep) (fail)
  all_goals go_wp2_with first | (go_at_call 80; refine (row1 _ _ _ _ _ n1 l2.length n3 c3 A3 _ (by go_simp) (by go_simp) (by go_simp)).mono ?_; rintro e w' ⟨rfl, rfl⟩) | (go_at_call 83; refine (hrise _ (by repeat (first | exact Below.refl _ _ | refine below_drew ?_ | refine below_alloc ?_ _))).mono ?_; rintro e w' ⟨rfl, ⟨nd, rfl⟩⟩)
  all_goals go_ret
  all_goals (refine ⟨?_, by repeat (first | exact Below.refl _ _ | refine below_drew ?_ | apply pw_below_drewN | refine below_alloc ?_ _)⟩)
  all_goals simp [*]
end Go.Proofs.YtmfladkimmnccaaDoor.Row
set_option linter.unusedVariables false
set_option linter.unusedSimpArgs false
namespace Go.Proofs.YtmfladkimmnccaaDoor.Row
open Go.RowKit Lathe Go.Proofs.YtmfladkimmnccaaDoor.PW Go.Proofs.YtmfladkimmnccaaDoorW.PrintWords Go.Proofs.YtmfladkimmnccaaDoorW.PrintMore Go.Proofs.YtmfladkimmnccaaDoor.Flo

set_option maxHeartbeats 8000000 in
set_option maxRecDepth 100000 in
theorem row_6 (A1 A2 A3 : Option Addr) (n1 n3 c1 c2 c3 k : Nat) (l2 : List Int) (r : Bool) (w : World) (hr : Kd.C (Kd.int .i64) w A2 l2.length l2) (hc : l2.length ≤ c2) (hs : l2.length ≤ 9223372036854775806) (h : sched_rising.f k l2 = some r) : Calls Tryd.prog 65 #[.agg #[.int .i64 6, .slice A1 n1 c1, .slice A2 l2.length c2, .slice A3 n3 c3]] w fun e w' => e = .returned (.bool (decide (n1 = 0) && ((n3 : Int) == (l2.length : Int) + 1) && r)) ∧ Below w.heap.size w w' := by
  have hmf : ∀ (fn : Fn) (first cap : Array Value) (w : World), (Instr.makeFunc fn first cap).run Tryd.prog w = .ok (.func fn first cap) w := fun _ _ _ _ => rfl
  have hrise : ∀ w1, Below w.heap.size w w1 → Calls Tryd.prog 83 #[.slice A2 l2.length c2] w1 fun e w' => e = .returned (.bool r) ∧ Drawn0 w1 w' := fun w1 hb => (sched_rising.calls k A2 c2 l2 r w1 (Kd.C_below hr hb) hc h)
  go_enter Tryd.func65, Tryd.ntmps65
  go_wp2
  go_region_held3 (fun w' => w'.cell? ⟨w.heap.size, 1, none⟩ = some (.slice A1 n1 c1) ∧ w'.cell? ⟨w.heap.size, 2, none⟩ = some (.slice A2 l2.length c2) ∧ w'.cell? ⟨w.heap.size, 3, none⟩ = some (.slice A3 n3 c3)) (go_keep) (fail)
  all_goals go_wp2_with (go_at_call 83; refine (hrise _ (by repeat (first | exact Below.refl _ _ | refine below_drew ?_ | refine below_alloc ?_ _))).mono ?_; rintro e w' ⟨rfl, ⟨nd, rfl⟩⟩)
  all_goals go_ret
  all_goals (refine ⟨?_, by repeat (first | exact Below.refl _ _ | refine below_drew ?_ | apply pw_below_drewN | refine below_alloc ?_ _)⟩)
  all_goals simp [*]
end Go.Proofs.YtmfladkimmnccaaDoor.Row
set_option linter.unusedVariables false
set_option linter.unusedSimpArgs false
namespace Go.Proofs.YtmfladkimmnccaaDoor.Row
open Go.RowKit Lathe Go.Proofs.YtmfladkimmnccaaDoor.PW Go.Proofs.YtmfladkimmnccaaDoorW.PrintWords Go.Proofs.YtmfladkimmnccaaDoorW.PrintMore Go.Proofs.YtmfladkimmnccaaDoor.Flo

set_option maxHeartbeats 8000000 in
set_option maxRecDepth 100000 in
theorem row_none (op : Int) (A1 A2 A3 : Option Addr) (n1 n2 n3 c1 c2 c3 : Nat) (w : World) (h1 : op ≠ 1) (h2 : op ≠ 2) (h3 : op ≠ 3) (h4 : op ≠ 4) (h5 : op ≠ 5) (h6 : op ≠ 6) (h7 : op ≠ 7) (h8 : op ≠ 8) (h9 : op ≠ 9) (h10 : op ≠ 10) (h11 : op ≠ 11) (h12 : op ≠ 12) (h13 : op ≠ 13) :
    Calls Tryd.prog 65 #[.agg #[.int .i64 op, .slice A1 n1 c1, .slice A2 n2 c2, .slice A3 n3 c3]] w fun e w' => e = .returned (.bool false) ∧ Below w.heap.size w w' := by
  have hmf : ∀ (fn : Fn) (first cap : Array Value) (w : World), (Instr.makeFunc fn first cap).run Tryd.prog w = .ok (.func fn first cap) w := fun _ _ _ _ => rfl
  go_enter Tryd.func65, Tryd.ntmps65
  go_wp2
  go_region_held3 (fun w' => w'.cell? ⟨w.heap.size, 1, none⟩ = some (.slice A1 n1 c1) ∧ w'.cell? ⟨w.heap.size, 2, none⟩ = some (.slice A2 n2 c2)) (go_keep) (fail)
  all_goals go_wp2
  all_goals go_ret
  all_goals exact ⟨rfl, by repeat (first | exact Below.refl _ _ | refine below_drew ?_ | refine below_alloc ?_ _)⟩
end Go.Proofs.YtmfladkimmnccaaDoor.Row
set_option linter.unusedVariables false
set_option linter.unusedSimpArgs false
namespace Go.Proofs.YtmfladkimmnccaaDoor.Row
open Go.RowKit Lathe Go.Proofs.YtmfladkimmnccaaDoor.PW Go.Proofs.YtmfladkimmnccaaDoorW.PrintWords Go.Proofs.YtmfladkimmnccaaDoorW.PrintMore Go.Proofs.YtmfladkimmnccaaDoor.Flo

set_option maxHeartbeats 8000000 in
set_option maxRecDepth 100000 in
theorem row_3_not (A1 A2 A3 : Option Addr) (n1 n2 n3 c1 c2 c3 : Nat) (w : World) (hh : has n1 n2 n3 2 2 = false) :
    Calls Tryd.prog 65 #[.agg #[.int .i64 3, .slice A1 n1 c1, .slice A2 n2 c2, .slice A3 n3 c3]] w fun e w' => e = .returned (.bool false) ∧ Below w.heap.size w w' := by
  have hmf : ∀ (fn : Fn) (first cap : Array Value) (w : World), (Instr.makeFunc fn first cap).run Tryd.prog w = .ok (.func fn first cap) w := fun _ _ _ _ => rfl
  go_enter Tryd.func65, Tryd.ntmps65
  go_wp2
  go_region_held3 (fun w' => w'.cell? ⟨w.heap.size, 1, none⟩ = some (.slice A1 n1 c1) ∧ w'.cell? ⟨w.heap.size, 2, none⟩ = some (.slice A2 n2 c2)) ((refine ⟨?_, ?_⟩) <;> (first | (go_simp; done))) (fail)
  all_goals go_wp2_with first
    | (go_at_call 80; refine (row1 _ _ _ _ _ n1 n2 n3 c3 A3 _ (by go_simp) (by go_simp) (by go_simp)).mono ?_; rintro e w' ⟨rfl, rfl⟩)
  all_goals go_ret
  all_goals (refine ⟨?_, by repeat (first | exact Below.refl _ _ | refine below_drew ?_ | refine below_alloc ?_ _)⟩)
  all_goals simp [*]
theorem row_3 (A1 A2 A3 : Option Addr) (n3 c1 c2 c3 : Nat) (l1 l2 : List Int) (w : World) (hr1 : Kd.C (Kd.int .u32) w A1 l1.length l1) (hr : Kd.C (Kd.int .i64) w A2 l2.length l2) :
    Calls Tryd.prog 65 #[.agg #[.int .i64 3, .slice A1 l1.length c1, .slice A2 l2.length c2, .slice A3 n3 c3]] w fun e w' => e = .returned (.bool (has l1.length l2.length n3 2 2 && (flt 0 (rd l1 1).toNat && (win (rd l2 0) 1 2147483647 && win (rd l2 1) 0 2147483647)))) ∧ Below w.heap.size w w' := by
  cases hh : has l1.length l2.length n3 2 2 with
  | false => exact row_3_not A1 A2 A3 _ _ n3 c1 c2 c3 w hh
  | true =>
    have h1 : l1.length = 2 := by
      unfold has at hh
      simp only [Bool.and_eq_true, beq_iff_eq] at hh
      omega
    have h2 : l2.length = 2 := by
      unfold has at hh
      simp only [Bool.and_eq_true, beq_iff_eq] at hh
      omega
    rw [h1] at hr1 hh ⊢
    rw [h2] at hr hh ⊢
    obtain ⟨be, rfl, _⟩ := Kd.at_int hr1 0 (by decide) (by decide)
    obtain ⟨_, he, z1⟩ := Kd.at_int hr1 1 (by decide) (by decide)
    cases he
    obtain ⟨ad, rfl, x0⟩ := Kd.at_int hr 0 (by decide) (by decide)
    obtain ⟨_, he, x1⟩ := Kd.at_int hr 1 (by decide) (by decide)
    cases he
    have za : ad.add (0 : Int).toNat = ad := by simp [Addr.add]
    rw [za] at x0
    have := row_3_fits none none A3 n3 c1 c2 c3 ad be (rd l2 0) (rd l2 1) (rd l1 1) w x0 x1 z1
    rw [hh] at this
    exact this
/-- What row answers, with fuel for the boundaries. -/
def rowO (k : Nat) (op : Int) (l1 l2 : List Int) (n3 : Nat) : Option Bool :=
  if op = 1 then some (has l1.length l2.length n3 1 0)
  else if op = 2 then some (has l1.length l2.length n3 2 3 && (win (rd l2 0) 1 1024 && (win (rd l2 1) 1 2147483647 && win (rd l2 2) 0 2147483647)))
  else if op = 3 then some (has l1.length l2.length n3 2 2 && (flt 0 (rd l1 1).toNat && (win (rd l2 0) 1 2147483647 && win (rd l2 1) 0 2147483647)))
  else if op = 4 then some (has l1.length l2.length n3 2 1 && win (rd l2 0) 1 2147483647)
  else if op = 5 then (sched_rising.f k l2).map fun r => has l1.length l2.length n3 ((l2.length : Int) + 1) l2.length && r
  else if op = 6 then (sched_rising.f k l2).map fun r => decide (l1.length = 0) && ((n3 : Int) == (l2.length : Int) + 1) && r
  else if op = 7 then some (has l1.length l2.length n3 1 1 && win (rd l2 0) 1 2147483647)
  else if op = 8 ∨ op = 9 ∨ op = 10 ∨ op = 11 then some (decide (l1.length = 0) && decide (l2.length = 0) && ((n3 : Int) == 2))
  else if op = 12 ∨ op = 13 then some (decide (l1.length = 0) && decide (l2.length = 1) && win (rd l2 0) 0 2147483647 && ((n3 : Int) == 1))
  else some false
theorem row_any (k : Nat) (op : Int) (A1 A2 A3 : Option Addr) (n3 c1 c2 c3 : Nat) (l1 l2 : List Int) (r : Bool) (w : World) (hr1 : Kd.C (Kd.int .u32) w A1 l1.length l1) (hr : Kd.C (Kd.int .i64) w A2 l2.length l2) (hc : l2.length ≤ c2) (hs : l2.length ≤ 9223372036854775806) (h : rowO k op l1 l2 n3 = some r) :
    Calls Tryd.prog 65 #[.agg #[.int .i64 op, .slice A1 l1.length c1, .slice A2 l2.length c2, .slice A3 n3 c3]] w fun e w' => e = .returned (.bool r) ∧ Below w.heap.size w w' := by
  unfold rowO at h
  by_cases h1 : op = 1
  · rw [if_pos h1] at h; subst h1; obtain rfl := Option.some.inj h
    exact row_1 A1 A2 A3 _ _ n3 c1 c2 c3 w
  rw [if_neg h1] at h
  by_cases h2 : op = 2
  · rw [if_pos h2] at h; subst h2; obtain rfl := Option.some.inj h
    exact row_2 A1 A2 A3 _ n3 c1 c2 c3 l2 w hr
  rw [if_neg h2] at h
  by_cases h3 : op = 3
  · rw [if_pos h3] at h; subst h3; obtain rfl := Option.some.inj h
    exact row_3 A1 A2 A3 n3 c1 c2 c3 l1 l2 w hr1 hr
  rw [if_neg h3] at h
  by_cases h4 : op = 4
  · rw [if_pos h4] at h; subst h4; obtain rfl := Option.some.inj h
    exact row_4 A1 A2 A3 _ n3 c1 c2 c3 l2 w hr
  rw [if_neg h4] at h
  by_cases h5 : op = 5
  · rw [if_pos h5] at h; subst h5
    obtain ⟨b, hb, rfl⟩ := Option.map_eq_some_iff.1 h
    exact row_5 A1 A2 A3 _ n3 c1 c2 c3 k l2 b w hr hc hs hb
  rw [if_neg h5] at h
  by_cases h6 : op = 6
  · rw [if_pos h6] at h; subst h6
    obtain ⟨b, hb, rfl⟩ := Option.map_eq_some_iff.1 h
    exact row_6 A1 A2 A3 _ n3 c1 c2 c3 k l2 b w hr hc hs hb
  rw [if_neg h6] at h
  by_cases h7 : op = 7
  · rw [if_pos h7] at h; subst h7; obtain rfl := Option.some.inj h
    exact row_7 A1 A2 A3 _ n3 c1 c2 c3 l2 w hr
  rw [if_neg h7] at h
  by_cases h8 : op = 8 ∨ op = 9 ∨ op = 10 ∨ op = 11
  · rw [if_pos h8] at h; obtain rfl := Option.some.inj h
    rcases h8 with rfl | rfl | rfl | rfl
    · exact row_8 A1 A2 A3 _ n3 c1 c2 c3 l2 w hr
    · exact row_9 A1 A2 A3 _ n3 c1 c2 c3 l2 w hr
    · exact row_10 A1 A2 A3 _ n3 c1 c2 c3 l2 w hr
    · exact row_11 A1 A2 A3 _ n3 c1 c2 c3 l2 w hr
  rw [if_neg h8] at h
  by_cases h12 : op = 12 ∨ op = 13
  · rw [if_pos h12] at h; obtain rfl := Option.some.inj h
    rcases h12 with rfl | rfl
    · exact row_12 A1 A2 A3 _ n3 c1 c2 c3 l2 w hr
    · exact row_13 A1 A2 A3 _ n3 c1 c2 c3 l2 w hr
  rw [if_neg h12] at h
  obtain rfl := Option.some.inj h
  exact row_none op A1 A2 A3 _ _ n3 c1 c2 c3 w h1 h2 h3 h4 h5 h6 h7 (by omega) (by omega) (by omega) (by omega) (by omega) (by omega)
end Go.Proofs.YtmfladkimmnccaaDoor.Row
