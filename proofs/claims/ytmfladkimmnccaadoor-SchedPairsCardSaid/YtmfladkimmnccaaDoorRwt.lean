/- The contract of package sched's row at an exponential schedule. No condition. -/
import Derived.Test.YtmfladkimmnccaaDoorRow
set_option linter.unusedVariables false
set_option linter.unusedSimpArgs false
namespace Go.Proofs.YtmfladkimmnccaaDoor.Row
open Go.RowKit Lathe Go.Proofs.YtmfladkimmnccaaDoor.PW Go.Proofs.YtmfladkimmnccaaDoorW.PrintWords Go.Proofs.YtmfladkimmnccaaDoorW.PrintMore Go.Proofs.YtmfladkimmnccaaDoor.Flo

set_option maxHeartbeats 8000000 in
set_option maxRecDepth 100000 in
theorem row_3_fits (A1 A2 A3 : Option Addr) (n3 c1 c2 c3 : Nat) (ad be : Addr) (r0 r1 y : Int) (w : World) (x0 : w.cell? ad = some (.int .i64 r0)) (x1 : w.cell? (ad.add 1) = some (.int .i64 r1)) (z1 : w.cell? (be.add 1) = some (.int .u32 y)) :
    Calls Tryd.prog 65 #[.agg #[.int .i64 3, .slice (some be) 2 c1, .slice (some ad) 2 c2, .slice A3 n3 c3]] w fun e w' => e = .returned (.bool (has 2 2 n3 2 2 && (flt 0 y.toNat && (win r0 1 2147483647 && win r1 0 2147483647)))) ∧ Below w.heap.size w w' := by
  have hmf : ∀ (fn : Fn) (first cap : Array Value) (w : World), (Instr.makeFunc fn first cap).run Tryd.prog w = .ok (.func fn first cap) w := fun _ _ _ _ => rfl
  have ea : be.add 1 = ⟨be.block, be.off + 1, none⟩ := by simp [Addr.add]
  rw [ea] at z1
  clear ea
  have b0 : ad.block < w.heap.size := World.block_lt_of_cell? w _ x0
  have q0 := World.new_ne w _ x0
  have q1 := World.new_ne w _ x1
  have q2 := World.new_ne w _ z1
  go_enter Tryd.func65, Tryd.ntmps65
  go_wp2
  go_region_held3 (fun w' => w'.cell? ⟨w.heap.size, 1, none⟩ = some (.slice (some be) 2 c1) ∧ w'.cell? ⟨w.heap.size, 2, none⟩ = some (.slice (some ad) 2 c2) ∧ w'.cell? ad = some (.int .i64 r0) ∧ w'.cell? (ad.add 1) = some (.int .i64 r1) ∧ w'.cell? ⟨be.block, be.off + 1, none⟩ = some (.int .u32 y)) ((refine ⟨?_, ?_, ?_, ?_, ?_⟩) <;> (first | (go_simp; done) | (repeat (first | exact x0 | exact x1 | exact z1 | refine keepD ?_ | refine keepA ?_)))) (fail)
  all_goals go_wp2_with first
    | (go_at_call 38; refine (Less _ _ _).mono ?_; rintro e w' ⟨rfl, rfl⟩)
    | (go_at_call 80; refine (row1 _ _ _ _ _ 2 2 n3 c3 A3 _ (by go_simp) (by go_simp) (by go_simp)).mono ?_; rintro e w' ⟨rfl, rfl⟩)
    | (go_at_call 81; refine (row2 _ r0 _ 2 c2 ad _ (by go_simp) (by decide) (by decide) (by repeat (first | exact x0 | exact x1 | exact z1 | refine keepD ?_ | refine keepA ?_))).mono ?_; rintro e w' ⟨rfl, rfl⟩)
    | (go_at_call 82; refine (row3 _ r1 _ 2 c2 ad _ (by go_simp) (by decide) (by decide) (by repeat (first | exact x0 | exact x1 | exact z1 | refine keepD ?_ | refine keepA ?_))).mono ?_; rintro e w' ⟨rfl, rfl⟩)
  all_goals go_ret
  all_goals (refine ⟨?_, by repeat (first | exact Below.refl _ _ | refine below_drew ?_ | refine below_alloc ?_ _)⟩)
  all_goals simp [*]
end Go.Proofs.YtmfladkimmnccaaDoor.Row
