/- The contract of package sched's row at the other operations. No condition. -/
import Derived.Test.YtmfladkimmnccaaDoorRow
set_option linter.unusedVariables false
set_option linter.unusedSimpArgs false
namespace Go.Proofs.YtmfladkimmnccaaDoor.Row
open Go.RowKit Lathe Go.Proofs.YtmfladkimmnccaaDoor.PW Go.Proofs.YtmfladkimmnccaaDoorW.PrintWords Go.Proofs.YtmfladkimmnccaaDoorW.PrintMore Go.Proofs.YtmfladkimmnccaaDoor.Flo

set_option maxHeartbeats 8000000 in
set_option maxRecDepth 100000 in
theorem row_4 (A1 A2 A3 : Option Addr) (n1 n3 c1 c2 c3 : Nat) (l2 : List Int) (w : World) (hr : Kd.C (Kd.int .i64) w A2 l2.length l2) : Calls Tryd.prog 65 #[.agg #[.int .i64 4, .slice A1 n1 c1, .slice A2 l2.length c2, .slice A3 n3 c3]] w fun e w' => e = .returned (.bool (has n1 l2.length n3 2 1 && win (rd l2 0) 1 2147483647)) ∧ Below w.heap.size w w' := by
  have hmf : ∀ (fn : Fn) (first cap : Array Value) (w : World), (Instr.makeFunc fn first cap).run Tryd.prog w = .ok (.func fn first cap) w := fun _ _ _ _ => rfl
  generalize hn : l2.length = n2
  by_cases h3 : n2 = 1
  · subst h3
    rw [hn] at hr
    obtain ⟨ad, rfl, x0⟩ := Kd.at_int hr 0 (by decide) (by decide)
    replace x0 : w.cell? ad = some (.int .i64 (rd l2 0)) := x0
    have b0 : ad.block < w.heap.size := World.block_lt_of_cell? w _ x0
    have q0 := World.new_ne w _ x0
    generalize rd l2 0 = r0 at *
    clear hr
    go_enter Tryd.func65, Tryd.ntmps65
    go_wp2
    go_region_held3 (fun w' => w'.cell? ⟨w.heap.size, 1, none⟩ = some (.slice A1 n1 c1) ∧ w'.cell? ⟨w.heap.size, 2, none⟩ = some (.slice (some ad) 1 c2) ∧ w'.cell? ad = some (.int .i64 r0)) ((refine ⟨?_, ?_, ?_⟩) <;> (first | (go_simp; done) | (repeat (first | exact x0 | refine keepD ?_ | refine keepA ?_)))) (fail)
    all_goals go_wp2_with first
      | (go_at_call 80; refine (row1 _ _ _ _ _ n1 1 n3 c3 A3 _ (by go_simp) (by go_simp) (by go_simp)).mono ?_; rintro e w' ⟨rfl, rfl⟩)
      | (go_at_call 81; refine (row2 _ r0 _ 1 c2 ad _ (by go_simp) (by decide) (by decide) (by repeat (first | exact x0 | refine keepD ?_ | refine keepA ?_))).mono ?_; rintro e w' ⟨rfl, rfl⟩)
    all_goals go_ret
    all_goals (refine ⟨?_, by repeat (first | exact Below.refl _ _ | refine below_drew ?_ | refine below_alloc ?_ _)⟩)
    all_goals simp [*]
  · have hf : has n1 n2 n3 2 1 = false := by simp [has]; omega
    rw [hf, Bool.false_and]
    clear hr
    go_enter Tryd.func65, Tryd.ntmps65
    go_wp2
    go_region_held3 (fun w' => w'.cell? ⟨w.heap.size, 1, none⟩ = some (.slice A1 n1 c1) ∧ w'.cell? ⟨w.heap.size, 2, none⟩ = some (.slice A2 n2 c2)) (go_keep) (fail)
    all_goals go_wp2_with (go_at_call 80; refine (row1 _ _ _ _ _ n1 n2 n3 c3 A3 _ (by go_simp) (by go_simp) (by go_simp)).mono ?_; rintro e w' ⟨rfl, rfl⟩)
    all_goals go_ret
    all_goals (refine ⟨?_, by repeat (first | exact Below.refl _ _ | refine below_drew ?_ | refine below_alloc ?_ _)⟩)
    all_goals simp [*]
set_option maxHeartbeats 8000000 in
set_option maxRecDepth 100000 in
theorem row_7 (A1 A2 A3 : Option Addr) (n1 n3 c1 c2 c3 : Nat) (l2 : List Int) (w : World) (hr : Kd.C (Kd.int .i64) w A2 l2.length l2) : Calls Tryd.prog 65 #[.agg #[.int .i64 7, .slice A1 n1 c1, .slice A2 l2.length c2, .slice A3 n3 c3]] w fun e w' => e = .returned (.bool (has n1 l2.length n3 1 1 && win (rd l2 0) 1 2147483647)) ∧ Below w.heap.size w w' := by
  have hmf : ∀ (fn : Fn) (first cap : Array Value) (w : World), (Instr.makeFunc fn first cap).run Tryd.prog w = .ok (.func fn first cap) w := fun _ _ _ _ => rfl
  generalize hn : l2.length = n2
  by_cases h3 : n2 = 1
  · subst h3
    rw [hn] at hr
    obtain ⟨ad, rfl, x0⟩ := Kd.at_int hr 0 (by decide) (by decide)
    replace x0 : w.cell? ad = some (.int .i64 (rd l2 0)) := x0
    have b0 : ad.block < w.heap.size := World.block_lt_of_cell? w _ x0
    have q0 := World.new_ne w _ x0
    generalize rd l2 0 = r0 at *
    clear hr
    go_enter Tryd.func65, Tryd.ntmps65
    go_wp2
    go_region_held3 (fun w' => w'.cell? ⟨w.heap.size, 1, none⟩ = some (.slice A1 n1 c1) ∧ w'.cell? ⟨w.heap.size, 2, none⟩ = some (.slice (some ad) 1 c2) ∧ w'.cell? ad = some (.int .i64 r0)) ((refine ⟨?_, ?_, ?_⟩) <;> (first | (go_simp; done) | (repeat (first | exact x0 | refine keepD ?_ | refine keepA ?_)))) (fail)
    all_goals go_wp2_with first
      | (go_at_call 80; refine (row1 _ _ _ _ _ n1 1 n3 c3 A3 _ (by go_simp) (by go_simp) (by go_simp)).mono ?_; rintro e w' ⟨rfl, rfl⟩)
      | (go_at_call 81; refine (row2 _ r0 _ 1 c2 ad _ (by go_simp) (by decide) (by decide) (by repeat (first | exact x0 | refine keepD ?_ | refine keepA ?_))).mono ?_; rintro e w' ⟨rfl, rfl⟩)
    all_goals go_ret
    all_goals (refine ⟨?_, by repeat (first | exact Below.refl _ _ | refine below_drew ?_ | refine below_alloc ?_ _)⟩)
    all_goals simp [*]
  · have hf : has n1 n2 n3 1 1 = false := by simp [has]; omega
    rw [hf, Bool.false_and]
    clear hr
    go_enter Tryd.func65, Tryd.ntmps65
    go_wp2
    go_region_held3 (fun w' => w'.cell? ⟨w.heap.size, 1, none⟩ = some (.slice A1 n1 c1) ∧ w'.cell? ⟨w.heap.size, 2, none⟩ = some (.slice A2 n2 c2)) (go_keep) (fail)
    all_goals go_wp2_with (go_at_call 80; refine (row1 _ _ _ _ _ n1 n2 n3 c3 A3 _ (by go_simp) (by go_simp) (by go_simp)).mono ?_; rintro e w' ⟨rfl, rfl⟩)
    all_goals go_ret
    all_goals (refine ⟨?_, by repeat (first | exact Below.refl _ _ | refine below_drew ?_ | refine below_alloc ?_ _)⟩)
    all_goals simp [*]
set_option maxHeartbeats 8000000 in
set_option maxRecDepth 100000 in
theorem row_8 (A1 A2 A3 : Option Addr) (n1 n3 c1 c2 c3 : Nat) (l2 : List Int) (w : World) (hr : Kd.C (Kd.int .i64) w A2 l2.length l2) : Calls Tryd.prog 65 #[.agg #[.int .i64 8, .slice A1 n1 c1, .slice A2 l2.length c2, .slice A3 n3 c3]] w fun e w' => e = .returned (.bool (decide (n1 = 0) && decide (l2.length = 0) && ((n3 : Int) == 2))) ∧ Below w.heap.size w w' := by
  have hmf : ∀ (fn : Fn) (first cap : Array Value) (w : World), (Instr.makeFunc fn first cap).run Tryd.prog w = .ok (.func fn first cap) w := fun _ _ _ _ => rfl
  generalize hn : l2.length = n2
  clear hr
  go_enter Tryd.func65, Tryd.ntmps65
  go_wp2
  go_region_held3 (fun w' => w'.cell? ⟨w.heap.size, 1, none⟩ = some (.slice A1 n1 c1) ∧ w'.cell? ⟨w.heap.size, 2, none⟩ = some (.slice A2 n2 c2) ∧ w'.cell? ⟨w.heap.size, 3, none⟩ = some (.slice A3 n3 c3)) (go_keep) (fail)
  all_goals go_wp2
  all_goals go_ret
  all_goals (refine ⟨?_, by repeat (first | exact Below.refl _ _ | refine below_drew ?_ | refine below_alloc ?_ _)⟩)
  all_goals simp [*]
set_option maxHeartbeats 8000000 in
set_option maxRecDepth 100000 in
theorem row_9 (A1 A2 A3 : Option Addr) (n1 n3 c1 c2 c3 : Nat) (l2 : List Int) (w : World) (hr : Kd.C (Kd.int .i64) w A2 l2.length l2) : Calls Tryd.prog 65 #[.agg #[.int .i64 9, .slice A1 n1 c1, .slice A2 l2.length c2, .slice A3 n3 c3]] w fun e w' => e = .returned (.bool (decide (n1 = 0) && decide (l2.length = 0) && ((n3 : Int) == 2))) ∧ Below w.heap.size w w' := by
  have hmf : ∀ (fn : Fn) (first cap : Array Value) (w : World), (Instr.makeFunc fn first cap).run Tryd.prog w = .ok (.func fn first cap) w := fun _ _ _ _ => rfl
  generalize hn : l2.length = n2
  clear hr
  go_enter Tryd.func65, Tryd.ntmps65
  go_wp2
  go_region_held3 (fun w' => w'.cell? ⟨w.heap.size, 1, none⟩ = some (.slice A1 n1 c1) ∧ w'.cell? ⟨w.heap.size, 2, none⟩ = some (.slice A2 n2 c2) ∧ w'.cell? ⟨w.heap.size, 3, none⟩ = some (.slice A3 n3 c3)) (go_keep) (fail)
  all_goals go_wp2
  all_goals go_ret
  all_goals (refine ⟨?_, by repeat (first | exact Below.refl _ _ | refine below_drew ?_ | refine below_alloc ?_ _)⟩)
  all_goals simp [*]
set_option maxHeartbeats 8000000 in
set_option maxRecDepth 100000 in
theorem row_10 (A1 A2 A3 : Option Addr) (n1 n3 c1 c2 c3 : Nat) (l2 : List Int) (w : World) (hr : Kd.C (Kd.int .i64) w A2 l2.length l2) : Calls Tryd.prog 65 #[.agg #[.int .i64 10, .slice A1 n1 c1, .slice A2 l2.length c2, .slice A3 n3 c3]] w fun e w' => e = .returned (.bool (decide (n1 = 0) && decide (l2.length = 0) && ((n3 : Int) == 2))) ∧ Below w.heap.size w w' := by
  have hmf : ∀ (fn : Fn) (first cap : Array Value) (w : World), (Instr.makeFunc fn first cap).run Tryd.prog w = .ok (.func fn first cap) w := fun _ _ _ _ => rfl
  generalize hn : l2.length = n2
  clear hr
  go_enter Tryd.func65, Tryd.ntmps65
  go_wp2
  go_region_held3 (fun w' => w'.cell? ⟨w.heap.size, 1, none⟩ = some (.slice A1 n1 c1) ∧ w'.cell? ⟨w.heap.size, 2, none⟩ = some (.slice A2 n2 c2) ∧ w'.cell? ⟨w.heap.size, 3, none⟩ = some (.slice A3 n3 c3)) (go_keep) (fail)
  all_goals go_wp2
  all_goals go_ret
  all_goals (refine ⟨?_, by repeat (first | exact Below.refl _ _ | refine below_drew ?_ | refine below_alloc ?_ _)⟩)
  all_goals simp [*]
set_option maxHeartbeats 8000000 in
set_option maxRecDepth 100000 in
theorem row_11 (A1 A2 A3 : Option Addr) (n1 n3 c1 c2 c3 : Nat) (l2 : List Int) (w : World) (hr : Kd.C (Kd.int .i64) w A2 l2.length l2) : Calls Tryd.prog 65 #[.agg #[.int .i64 11, .slice A1 n1 c1, .slice A2 l2.length c2, .slice A3 n3 c3]] w fun e w' => e = .returned (.bool (decide (n1 = 0) && decide (l2.length = 0) && ((n3 : Int) == 2))) ∧ Below w.heap.size w w' := by
  have hmf : ∀ (fn : Fn) (first cap : Array Value) (w : World), (Instr.makeFunc fn first cap).run Tryd.prog w = .ok (.func fn first cap) w := fun _ _ _ _ => rfl
  generalize hn : l2.length = n2
  clear hr
  go_enter Tryd.func65, Tryd.ntmps65
  go_wp2
  go_region_held3 (fun w' => w'.cell? ⟨w.heap.size, 1, none⟩ = some (.slice A1 n1 c1) ∧ w'.cell? ⟨w.heap.size, 2, none⟩ = some (.slice A2 n2 c2) ∧ w'.cell? ⟨w.heap.size, 3, none⟩ = some (.slice A3 n3 c3)) (go_keep) (fail)
  all_goals go_wp2
  all_goals go_ret
  all_goals (refine ⟨?_, by repeat (first | exact Below.refl _ _ | refine below_drew ?_ | refine below_alloc ?_ _)⟩)
  all_goals simp [*]
set_option maxHeartbeats 8000000 in
set_option maxRecDepth 100000 in
theorem row_12 (A1 A2 A3 : Option Addr) (n1 n3 c1 c2 c3 : Nat) (l2 : List Int) (w : World) (hr : Kd.C (Kd.int .i64) w A2 l2.length l2) : Calls Tryd.prog 65 #[.agg #[.int .i64 12, .slice A1 n1 c1, .slice A2 l2.length c2, .slice A3 n3 c3]] w fun e w' => e = .returned (.bool (decide (n1 = 0) && decide (l2.length = 1) && win (rd l2 0) 0 2147483647 && ((n3 : Int) == 1))) ∧ Below w.heap.size w w' := by
  have hmf : ∀ (fn : Fn) (first cap : Array Value) (w : World), (Instr.makeFunc fn first cap).run Tryd.prog w = .ok (.func fn first cap) w := fun _ _ _ _ => rfl
  generalize hn : l2.length = n2
  by_cases h3 : n2 = 1
  · subst h3
    rw [hn] at hr
    obtain ⟨ad, rfl, x0⟩ := Kd.at_int hr 0 (by decide) (by decide)
    replace x0 : w.cell? ad = some (.int .i64 (rd l2 0)) := x0
    have b0 : ad.block < w.heap.size := World.block_lt_of_cell? w _ x0
    have q0 := World.new_ne w _ x0
    generalize rd l2 0 = r0 at *
    clear hr
    go_enter Tryd.func65, Tryd.ntmps65
    go_wp2
    go_region_held3 (fun w' => w'.cell? ⟨w.heap.size, 1, none⟩ = some (.slice A1 n1 c1) ∧ w'.cell? ⟨w.heap.size, 2, none⟩ = some (.slice (some ad) 1 c2) ∧ w'.cell? ⟨w.heap.size, 3, none⟩ = some (.slice A3 n3 c3) ∧ w'.cell? ad = some (.int .i64 r0)) ((refine ⟨?_, ?_, ?_, ?_⟩) <;> (first | (go_simp; done) | (repeat (first | exact x0 | refine keepD ?_ | refine keepA ?_)))) (fail)
    all_goals go_wp2_with (go_at_call 82; refine (row3 _ r0 _ 1 c2 ad _ (by go_simp) (by decide) (by decide) (by repeat (first | exact x0 | refine keepD ?_ | refine keepA ?_))).mono ?_; rintro e w' ⟨rfl, rfl⟩)
    all_goals go_ret
    all_goals (refine ⟨?_, by repeat (first | exact Below.refl _ _ | refine below_drew ?_ | refine below_alloc ?_ _)⟩)
    all_goals simp [*]
  · clear hr
    go_enter Tryd.func65, Tryd.ntmps65
    go_wp2
    go_region_held3 (fun w' => w'.cell? ⟨w.heap.size, 1, none⟩ = some (.slice A1 n1 c1) ∧ w'.cell? ⟨w.heap.size, 2, none⟩ = some (.slice A2 n2 c2) ∧ w'.cell? ⟨w.heap.size, 3, none⟩ = some (.slice A3 n3 c3)) (go_keep) (fail)
    all_goals go_wp2
    all_goals go_ret
    all_goals (refine ⟨?_, by repeat (first | exact Below.refl _ _ | refine below_drew ?_ | refine below_alloc ?_ _)⟩)
    all_goals simp [*]
set_option maxHeartbeats 8000000 in
set_option maxRecDepth 100000 in
theorem row_13 (A1 A2 A3 : Option Addr) (n1 n3 c1 c2 c3 : Nat) (l2 : List Int) (w : World) (hr : Kd.C (Kd.int .i64) w A2 l2.length l2) : Calls Tryd.prog 65 #[.agg #[.int .i64 13, .slice A1 n1 c1, .slice A2 l2.length c2, .slice A3 n3 c3]] w fun e w' => e = .returned (.bool (decide (n1 = 0) && decide (l2.length = 1) && win (rd l2 0) 0 2147483647 && ((n3 : Int) == 1))) ∧ Below w.heap.size w w' := by
  have hmf : ∀ (fn : Fn) (first cap : Array Value) (w : World), (Instr.makeFunc fn first cap).run Tryd.prog w = .ok (.func fn first cap) w := fun _ _ _ _ => rfl
  generalize hn : l2.length = n2
  by_cases h3 : n2 = 1
  · subst h3
    rw [hn] at hr
    obtain ⟨ad, rfl, x0⟩ := Kd.at_int hr 0 (by decide) (by decide)
    replace x0 : w.cell? ad = some (.int .i64 (rd l2 0)) := x0
    have b0 : ad.block < w.heap.size := World.block_lt_of_cell? w _ x0
    have q0 := World.new_ne w _ x0
    generalize rd l2 0 = r0 at *
    clear hr
    go_enter Tryd.func65, Tryd.ntmps65
    go_wp2
    go_region_held3 (fun w' => w'.cell? ⟨w.heap.size, 1, none⟩ = some (.slice A1 n1 c1) ∧ w'.cell? ⟨w.heap.size, 2, none⟩ = some (.slice (some ad) 1 c2) ∧ w'.cell? ⟨w.heap.size, 3, none⟩ = some (.slice A3 n3 c3) ∧ w'.cell? ad = some (.int .i64 r0)) ((refine ⟨?_, ?_, ?_, ?_⟩) <;> (first | (go_simp; done) | (repeat (first | exact x0 | refine keepD ?_ | refine keepA ?_)))) (fail)
    all_goals go_wp2_with (go_at_call 82; refine (row3 _ r0 _ 1 c2 ad _ (by go_simp) (by decide) (by decide) (by repeat (first | exact x0 | refine keepD ?_ | refine keepA ?_))).mono ?_; rintro e w' ⟨rfl, rfl⟩)
    all_goals go_ret
    all_goals (refine ⟨?_, by repeat (first | exact Below.refl _ _ | refine below_drew ?_ | refine below_alloc ?_ _)⟩)
    all_goals simp [*]
  · clear hr
    go_enter Tryd.func65, Tryd.ntmps65
    go_wp2
    go_region_held3 (fun w' => w'.cell? ⟨w.heap.size, 1, none⟩ = some (.slice A1 n1 c1) ∧ w'.cell? ⟨w.heap.size, 2, none⟩ = some (.slice A2 n2 c2) ∧ w'.cell? ⟨w.heap.size, 3, none⟩ = some (.slice A3 n3 c3)) (go_keep) (fail)
    all_goals go_wp2
    all_goals go_ret
    all_goals (refine ⟨?_, by repeat (first | exact Below.refl _ _ | refine below_drew ?_ | refine below_alloc ?_ _)⟩)
    all_goals simp [*]
end Go.Proofs.YtmfladkimmnccaaDoor.Row
