/- The contract of package sched's row. No condition. -/
import Derived.Test.YtmfladkimmnccaaDoorWal
import Derived.Test.YtmfladkimmnccaaDoorPow
import Derived.Test.YtmfladkimmnccaaDoorFpc
import Derived.Test.YtmfladkimmnccaaDoorPWxa
import Derived.LoopTactic
import Derived.LoopN
import Derived.Deep.RegionHeld3
set_option linter.unusedVariables false
set_option linter.unusedSimpArgs false
namespace Go.Proofs.YtmfladkimmnccaaDoor.Row
open Go.RowKit Lathe Go.Proofs.YtmfladkimmnccaaDoor.PW Go.Proofs.YtmfladkimmnccaaDoorW.PrintWords Go.Proofs.YtmfladkimmnccaaDoorW.PrintMore Go.Proofs.YtmfladkimmnccaaDoor.Flo

def win (n lo hi : Int) : Bool := decide (lo ≤ n) && decide (n ≤ hi)
def has (n1 n2 n3 : Nat) (n i : Int) : Bool := ((n1 : Int) == n) && ((n2 : Int) == i) && ((n3 : Int) == 0)
set_option maxHeartbeats 4000000 in
set_option maxRecDepth 100000 in
theorem row_1 (A1 A2 A3 : Option Addr) (n1 n2 n3 c1 c2 c3 : Nat) (w : World) : Calls Tryd.prog 65 #[.agg #[.int .i64 1, .slice A1 n1 c1, .slice A2 n2 c2, .slice A3 n3 c3]] w fun e w' => e = .returned (.bool (has n1 n2 n3 1 0)) ∧ Below w.heap.size w w' := by
  have hmf : ∀ (fn : Fn) (first cap : Array Value) (w : World), (Instr.makeFunc fn first cap).run Tryd.prog w = .ok (.func fn first cap) w := fun _ _ _ _ => rfl
  go_enter Tryd.func65, Tryd.ntmps65
  go_wp2
  go_region_held3 (fun w' => w'.cell? ⟨w.heap.size, 1, none⟩ = some (.slice A1 n1 c1) ∧ w'.cell? ⟨w.heap.size, 2, none⟩ = some (.slice A2 n2 c2)) (go_keep) (fail)
  all_goals go_wp2
  all_goals go_ret
  all_goals (refine ⟨?_, by repeat (first | exact Below.refl _ _ | refine below_drew ?_ | refine below_alloc ?_ _)⟩)
  all_goals simp [has, *]
theorem win_int (n lo hi : Int) (w : World) : Calls Tryd.prog 29 #[.int .i64 n, .int .i64 lo, .int .i64 hi] w fun e w' => e = .returned (.bool (win n lo hi)) ∧ w = w' := by
  go_enter Tryd.func29, Tryd.ntmps29
  by_cases h1 : n ≥ lo
  · have h2 : lo ≤ n := h1
    go_wp2
    go_ret
    simp [win, h2]
  · have h2 : decide (lo ≤ n) = false := decide_eq_false h1
    go_wp2
    go_ret
    rw [win, h2]
    exact ⟨rfl, rfl⟩
theorem keepA {W : World} {a : Addr} {v : Value} {o : Obj} (h : W.cell? a = some v) : (W.alloc o).cell? a = some v := (World.cell?_alloc_lt W o a (World.block_lt_of_cell? W a h)).trans h
theorem keepD {W : World} {a : Addr} {v : Value} (h : W.cell? a = some v) : W.drew.cell? a = some v := h
theorem row1 (n i : Int) (p q s n1 n2 n3 c3 : Nat) (A3 : Option Addr) (w : World) (hp : w.cell? ⟨p, 0, none⟩ = some (.int .i64 n1)) (hq : w.cell? ⟨q, 0, none⟩ = some (.int .i64 n2)) (h3 : w.cell? ⟨s, 3, none⟩ = some (.slice A3 n3 c3)) :
    Calls Tryd.prog 80 #[.int .i64 n, .int .i64 i, .pointer (some ⟨p, 0, none⟩), .pointer (some ⟨q, 0, none⟩), .pointer (some ⟨s, 0, none⟩)] w fun e w' => e = .returned (.bool (has n1 n2 n3 n i)) ∧ w = w' := by
  go_enter Tryd.func80, Tryd.ntmps80
  go_wp2
  all_goals go_ret
  all_goals simp [has, *]
theorem row2 (i r : Int) (s m c : Nat) (ad : Addr) (w : World) (h2 : w.cell? ⟨s, 2, none⟩ = some (.slice (some ad) m c)) (h0 : 0 ≤ i) (h1 : i < m) (hc : w.cell? (ad.add i.toNat) = some (.int .i64 r)) :
    Calls Tryd.prog 81 #[.int .i64 i, .pointer (some ⟨s, 0, none⟩)] w fun e w' => e = .returned (.bool (win r 1 2147483647)) ∧ w = w' := by
  go_enter Tryd.func81, Tryd.ntmps81
  go_wp2_with (go_at_call 29; refine (win_int _ _ _ _).mono ?_; rintro e w' ⟨rfl, rfl⟩)
  go_ret
  exact ⟨rfl, rfl⟩
theorem row3 (i r : Int) (s m c : Nat) (ad : Addr) (w : World) (h2 : w.cell? ⟨s, 2, none⟩ = some (.slice (some ad) m c)) (h0 : 0 ≤ i) (h1 : i < m) (hc : w.cell? (ad.add i.toNat) = some (.int .i64 r)) :
    Calls Tryd.prog 82 #[.int .i64 i, .pointer (some ⟨s, 0, none⟩)] w fun e w' => e = .returned (.bool (win r 0 2147483647)) ∧ w = w' := by
  go_enter Tryd.func82, Tryd.ntmps82
  go_wp2_with (go_at_call 29; refine (win_int _ _ _ _).mono ?_; rintro e w' ⟨rfl, rfl⟩)
  go_ret
  exact ⟨rfl, rfl⟩
set_option maxHeartbeats 8000000 in
set_option maxRecDepth 100000 in
theorem row_2 (A1 A2 A3 : Option Addr) (n1 n3 c1 c2 c3 : Nat) (l2 : List Int) (w : World) (hr : Kd.C (Kd.int .i64) w A2 l2.length l2) : Calls Tryd.prog 65 #[.agg #[.int .i64 2, .slice A1 n1 c1, .slice A2 l2.length c2, .slice A3 n3 c3]] w fun e w' => e = .returned (.bool (has n1 l2.length n3 2 3 && (win (rd l2 0) 1 1024 && (win (rd l2 1) 1 2147483647 && win (rd l2 2) 0 2147483647)))) ∧ Below w.heap.size w w' := by
  have hmf : ∀ (fn : Fn) (first cap : Array Value) (w : World), (Instr.makeFunc fn first cap).run Tryd.prog w = .ok (.func fn first cap) w := fun _ _ _ _ => rfl
  generalize hn : l2.length = n2
  by_cases h3 : n2 = 3
  · subst h3
    rw [hn] at hr
    obtain ⟨ad, rfl, x0⟩ := Kd.at_int hr 0 (by decide) (by decide)
    obtain ⟨_, he, x1⟩ := Kd.at_int hr 1 (by decide) (by decide)
    cases he
    obtain ⟨_, he, x2⟩ := Kd.at_int hr 2 (by decide) (by decide)
    cases he
    replace x0 : w.cell? ad = some (.int .i64 (rd l2 0)) := x0
    replace x1 : w.cell? (ad.add 1) = some (.int .i64 (rd l2 1)) := x1
    replace x2 : w.cell? (ad.add 2) = some (.int .i64 (rd l2 2)) := x2
    have b0 : ad.block < w.heap.size := World.block_lt_of_cell? w _ x0
    have q0 := World.new_ne w _ x0
    have q1 := World.new_ne w _ x1
    have q2 := World.new_ne w _ x2
    generalize rd l2 0 = r0 at *
    generalize rd l2 1 = r1 at *
    generalize rd l2 2 = r2 at *
    clear hr
    go_enter Tryd.func65, Tryd.ntmps65
    go_wp2
    go_region_held3 (fun w' => w'.cell? ⟨w.heap.size, 1, none⟩ = some (.slice A1 n1 c1) ∧ w'.cell? ⟨w.heap.size, 2, none⟩ = some (.slice (some ad) 3 c2) ∧ w'.cell? ad = some (.int .i64 r0) ∧ w'.cell? (ad.add 1) = some (.int .i64 r1) ∧ w'.cell? (ad.add 2) = some (.int .i64 r2)) ((refine ⟨?_, ?_, ?_, ?_, ?_⟩) <;> (first | (go_simp; done) | (repeat (first | exact x0 | exact x1 | exact x2 | refine keepD ?_ | refine keepA ?_)))) (fail)
    all_goals go_wp2_with first
      | (go_at_call 29; refine (win_int _ _ _ _).mono ?_; rintro e w' ⟨rfl, rfl⟩)
      | (go_at_call 80; refine (row1 _ _ _ _ _ n1 3 n3 c3 A3 _ (by go_simp) (by go_simp) (by go_simp)).mono ?_; rintro e w' ⟨rfl, rfl⟩)
      | (go_at_call 81; refine (row2 _ r1 _ 3 c2 ad _ (by go_simp) (by decide) (by decide) (by repeat (first | exact x0 | exact x1 | exact x2 | refine keepD ?_ | refine keepA ?_))).mono ?_; rintro e w' ⟨rfl, rfl⟩)
      | (go_at_call 82; refine (row3 _ r2 _ 3 c2 ad _ (by go_simp) (by decide) (by decide) (by repeat (first | exact x0 | exact x1 | exact x2 | refine keepD ?_ | refine keepA ?_))).mono ?_; rintro e w' ⟨rfl, rfl⟩)
    all_goals go_ret
    all_goals (refine ⟨?_, by repeat (first | exact Below.refl _ _ | refine below_drew ?_ | refine below_alloc ?_ _)⟩)
    all_goals simp [*]
  · have hf : has n1 n2 n3 2 3 = false := by simp [has]; omega
    rw [hf, Bool.false_and]
    clear hr
    go_enter Tryd.func65, Tryd.ntmps65
    go_wp2
    go_region_held3 (fun w' => w'.cell? ⟨w.heap.size, 1, none⟩ = some (.slice A1 n1 c1) ∧ w'.cell? ⟨w.heap.size, 2, none⟩ = some (.slice A2 n2 c2)) (go_keep) (fail)
    all_goals go_wp2_with (go_at_call 80; refine (row1 _ _ _ _ _ n1 n2 n3 c3 A3 _ (by go_simp) (by go_simp) (by go_simp)).mono ?_; rintro e w' ⟨rfl, rfl⟩)
    all_goals go_ret
    all_goals (refine ⟨?_, by repeat (first | exact Below.refl _ _ | refine below_drew ?_ | refine below_alloc ?_ _)⟩)
    all_goals simp [*]
end Go.Proofs.YtmfladkimmnccaaDoor.Row
