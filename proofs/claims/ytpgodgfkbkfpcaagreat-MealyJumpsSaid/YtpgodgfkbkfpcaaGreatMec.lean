/- Functions of packages sign and check at one parameter w, real, of length 1. No condition. -/
import Derived.Test.YtpgodgfkbkfpcaaGreatMea
import Derived.Deep.AppendLies
import Derived.Maps.AppendAt
import Derived.Lib.ConvBytes
set_option linter.unusedVariables false
set_option linter.unusedSimpArgs false
namespace Go.Proofs.YtpgodgfkbkfpcaaGreat.Mec
open Go.RowKit
def pw : Value := .agg #[.string ⟨#[119]⟩, .int .i64 1, .int .i64 1]
set_option maxHeartbeats 400000 in
set_option maxRecDepth 100000 in
theorem name_w (W : World) : Calls Tryz.prog 147 #[.string ⟨#[119]⟩] W fun e w' => e = .returned (.bool true) ∧ Below W.heap.size W w' := by
  have hcv := Lib.run_convert_string_bytes (P := Tryz.prog) W 9 252 5 ⟨#[119]⟩ Tryz.underlying9 Tryz.underlying252 Tryz.underlying5
  have hcell : (Lib.bytesWorld W 5 ⟨#[119]⟩).cell? ⟨W.heap.size, 0, none⟩ = some (.int .u8 119) := Lib.bytesWorld_cell W 5 ⟨#[119]⟩ 0 (by decide)
  have hbel : Below W.heap.size W (Lib.bytesWorld W 5 ⟨#[119]⟩) := ⟨rfl, rfl, rfl, by rw [Lib.bytesWorld_size]; omega, fun k hk => Lib.bytesWorld_at_old W 5 _ k hk⟩
  generalize Lib.bytesWorld W 5 ⟨#[119]⟩ = W1 at hcv hcell hbel
  generalize Go.grownCap W (⟨#[119]⟩ : ByteArray).size 0 5 = cap at hcv
  rw [show (⟨#[119]⟩ : ByteArray).size = 1 from rfl] at hcv
  go_enter Tryz.func147, Tryz.ntmps147
  go_wp2
  refine wp_loop_rounds 2 ?_
  rw [rounds_succ]
  go_wp2
  rw [rounds_succ]
  go_wp2
  go_ret
  exact ⟨rfl, hbel⟩
set_option maxHeartbeats 400000 in
set_option maxRecDepth 100000 in
theorem may_w (W : World) : Calls Tryz.prog 92 #[pw] W fun e w' => e = .returned (.bool true) ∧ Below W.heap.size W w' := by
  unfold pw
  go_enter Tryz.func92, Tryz.ntmps92
  go_wp2_with (go_at_call 147; refine (name_w _).mono ?_; rintro e w1 ⟨rfl, hb⟩; have m1 : w1.cell? ⟨W.heap.size, 1, none⟩ = some (.int .i64 1) := (hb.cell (p := ⟨W.heap.size, 1, none⟩) (by simp)).trans (by go_simp); have m2 : w1.cell? ⟨W.heap.size, 2, none⟩ = some (.int .i64 1) := (hb.cell (p := ⟨W.heap.size, 2, none⟩) (by simp)).trans (by go_simp))
  go_ret
  exact ⟨rfl, Tab.then_ ((Below.refl _ _).alloc (Nat.le_refl _) _) (by simp) hb⟩
set_option maxHeartbeats 400000 in
set_option maxRecDepth 100000 in
theorem numbers_w (W : World) : Calls Tryz.prog 64 #[pw] W fun e w' => e = .returned (.int .i64 1) ∧ Below W.heap.size W w' := by
  have hm := may_w
  unfold pw at hm ⊢
  go_enter Tryz.func64, Tryz.ntmps64
  go_wp2_with (go_at_call 92; refine (hm _).mono ?_; rintro e w1 ⟨rfl, hb⟩; have m1 : w1.cell? ⟨W.heap.size, 1, none⟩ = some (.int .i64 1) := (hb.cell (p := ⟨W.heap.size, 1, none⟩) (by simp)).trans (by go_simp); have m2 : w1.cell? ⟨W.heap.size, 2, none⟩ = some (.int .i64 1) := (hb.cell (p := ⟨W.heap.size, 2, none⟩) (by simp)).trans (by go_simp))
  go_ret
  exact ⟨rfl, Tab.then_ ((Below.refl _ _).alloc (Nat.le_refl _) _) (by simp) hb⟩
/-- The list of that one parameter. -/
structure One (w : World) (g : Nat) : Prop where
  c0 : w.cell? ⟨g, 0, none⟩ = some (.string ⟨#[119]⟩)
  c1 : w.cell? ⟨g, 1, none⟩ = some (.int .i64 1)
  c2 : w.cell? ⟨g, 2, none⟩ = some (.int .i64 1)
set_option maxHeartbeats 400000 in
set_option maxRecDepth 100000 in
theorem total_w (g c : Nat) (W : World) (h : One W g) : Calls Tryz.prog 129 #[.slice (some ⟨g, 0, none⟩) 1 c] W fun e w' => e = .returned (.int .i64 1) ∧ Below W.heap.size W w' := by
  have hm := numbers_w
  unfold pw at hm
  obtain ⟨c0, c1, c2⟩ := h
  go_enter Tryz.func129, Tryz.ntmps129
  go_wp2
  refine wp_loop_rounds 2 ?_
  rw [rounds_succ]
  go_wp2_with (go_at_call 64; refine (hm _).mono ?_; rintro e w1 ⟨rfl, hb⟩)
  rw [rounds_succ]
  go_wp2
  go_ret
  exact ⟨rfl, Tab.then_ ((Below.refl _ _).alloc (Nat.le_refl _) _) (by simp) hb⟩
end Go.Proofs.YtpgodgfkbkfpcaaGreat.Mec
