/- A step of nothing at trace; vectors alike. No condition. -/
import Derived.Test.YtpgodgfkbkfpcaaGreatStj
import Derived.Deep.RegionHeld3
set_option linter.unusedVariables false
set_option linter.unusedSimpArgs false
namespace Go.Proofs.YtpgodgfkbkfpcaaGreat.Tim
open Go.Shelf Go.RowKit Go.Proofs.YtpgodgfkbkfpcaaGreat.Trb Go.Proofs.YtpgodgfkbkfpcaaGreat.Bui Go.Proofs.YtpgodgfkbkfpcaaGreat.Fom
open Lathe (fadd fmul)
theorem below_drew {n : Nat} {a w : World} (h : Below n a w) : Below n a w.drew := ⟨h.os, h.tape, h.output, h.size, h.block⟩
set_option maxHeartbeats 400000 in
set_option maxRecDepth 100000 in
theorem fits_bad (ql qc : Nat) (W : World) : Calls Tryz.prog 41 #[.slice (some ⟨ql, 0, none⟩) 1 qc, .slice none 0 0] W fun e w' => e = .returned (.bool false) ∧ w' = W := by
  go_enter Tryz.func41, Tryz.ntmps41
  go_wp2
  go_ret
  exact ⟨rfl, rfl⟩
set_option maxHeartbeats 400000 in
set_option maxRecDepth 100000 in
theorem Step_bad (m ql qc k : Nat) (N : Int) (W : World) (h : Mac W m N (.slice (some ⟨ql, 0, none⟩) 1 qc) k) : Calls Tryz.prog 17 #[.pointer (some ⟨m, 0, none⟩), .slice none 0 0, .slice none 0 0] W fun e w' => e = .returned (.tuple #[.slice none 0 0, .int .i64 170]) ∧ w' = W := by
  have m1 := h.c1
  go_enter Tryz.func17, Tryz.ntmps17
  go_wp2_with (go_at_call 41; refine (fits_bad _ _ _).mono ?_; rintro e w1 ⟨rfl, rfl⟩)
  go_ret2
  exact ⟨rfl, rfl⟩
set_option maxHeartbeats 1000000 in
set_option maxRecDepth 100000 in
theorem same1 (z : Int) (r rc s sc v vc g c : Nat) (W : World) (h1 : W.cell? ⟨r, 0, none⟩ = some (.slice (some ⟨s, 0, none⟩) 1 sc)) (h2 : W.cell? ⟨s, 0, none⟩ = some (.int .u32 z)) (h3 : W.cell? ⟨v, 0, none⟩ = some (.slice (some ⟨g, 0, none⟩) 1 c)) (h4 : W.cell? ⟨g, 0, none⟩ = some (.int .u32 z)) :
    Calls Tryz.prog 19 #[.slice (some ⟨r, 0, none⟩) 1 rc, .slice (some ⟨v, 0, none⟩) 1 vc] W fun e w' => e = .returned (.bool true) ∧ Below W.heap.size W w' := by
  have hB : Below W.heap.size W W := Below.refl _ _
  go_enter Tryz.func19, Tryz.ntmps19
  go_wp2
  refine wp_loop_rounds 2 ?_
  rw [rounds_succ]
  go_wp2
  go_region_held3 (fun w' => w'.cell? ⟨r, 0, none⟩ = some (.slice (some ⟨s, 0, none⟩) 1 sc) ∧ w'.cell? ⟨s, 0, none⟩ = some (.int .u32 z) ∧ w'.cell? ⟨v, 0, none⟩ = some (.slice (some ⟨g, 0, none⟩) 1 c) ∧ w'.cell? ⟨g, 0, none⟩ = some (.int .u32 z) ∧ Below W.heap.size W w') ((refine ⟨?_, ?_, ?_, ?_, ?_⟩) <;> (first | assumption | exact below_drew (by assumption))) (fail)
  go_wp2
  refine wp_loop_rounds 2 ?_
  rw [rounds_succ]
  go_wp2
  have k1 : W.drew.cell? ⟨r, 0, none⟩ = _ := h1
  have k2 : W.drew.cell? ⟨s, 0, none⟩ = _ := h2
  have k3 : W.drew.cell? ⟨v, 0, none⟩ = _ := h3
  have k4 : W.drew.cell? ⟨g, 0, none⟩ = _ := h4
  have k5 : Below W.heap.size W W.drew := below_drew hB
  clear h1 h2 h3 h4 hB
  go_region_held3 (fun w' => w'.cell? ⟨r, 0, none⟩ = some (.slice (some ⟨s, 0, none⟩) 1 sc) ∧ w'.cell? ⟨s, 0, none⟩ = some (.int .u32 z) ∧ w'.cell? ⟨v, 0, none⟩ = some (.slice (some ⟨g, 0, none⟩) 1 c) ∧ w'.cell? ⟨g, 0, none⟩ = some (.int .u32 z) ∧ Below W.heap.size W w') ((refine ⟨?_, ?_, ?_, ?_, ?_⟩) <;> (first | assumption | exact below_drew (by assumption))) (fail)
  go_wp2
  rw [rounds_succ]
  go_wp2
  rw [rounds_succ]
  go_wp2
  go_ret
  exact ⟨rfl, below_drew k5⟩
end Go.Proofs.YtpgodgfkbkfpcaaGreat.Tim
