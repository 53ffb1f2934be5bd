/- Jump, Count, tick; a step of the machine at identity. No condition. -/
import Derived.Test.YtpgodgfkbkfpcaaGreatNed
set_option linter.unusedVariables false
set_option linter.unusedSimpArgs false
namespace Go.Proofs.YtpgodgfkbkfpcaaGreat.Bui
open Go.Shelf Go.RowKit Go.Proofs.YtpgodgfkbkfpcaaGreat.Trb Go.Proofs.YtpgodgfkbkfpcaaGreat.Fom
set_option maxHeartbeats 400000 in
set_option maxRecDepth 100000 in
theorem Count (m k : Nat) (n : Int) (lv : Value) (W : World) (h : Mac W m n lv k) : Calls Tryz.prog 20 #[.pointer (some ⟨m, 0, none⟩)] W fun e w' => e = .returned (.int .i64 n) ∧ w' = W := by
  have c0 := h.c0
  go_enter Tryz.func20, Tryz.ntmps20
  go_wp2
  go_ret
  exact ⟨rfl, rfl⟩
set_option maxHeartbeats 400000 in
set_option maxRecDepth 100000 in
theorem Jump_no (m : Nat) (n : Int) (W : World) (hn : n < 0 ∨ 2147483647 < n) : Calls Tryz.prog 14 #[.pointer (some ⟨m, 0, none⟩), .int .i64 n] W fun e w' => e = .returned (.int .i64 1) ∧ w' = W := by
  go_enter Tryz.func14, Tryz.ntmps14
  by_cases h0 : n < 0
  · go_wp2
    go_ret
    exact ⟨rfl, rfl⟩
  · have h1 : n > 2147483647 := by omega
    go_wp2
    go_ret
    exact ⟨rfl, rfl⟩
set_option maxHeartbeats 400000 in
set_option maxRecDepth 100000 in
theorem jump39 (g : Nat) (c n : Int) (W : World) (hc : W.cell? ⟨g, 0, none⟩ = some (.int .i64 c)) (hf : W.frozen? ⟨g, 0, none⟩ = false) : Calls Tryz.prog 39 #[.pointer (some ⟨g, 0, none⟩), .int .i64 n] W fun e w' => e = .returned (.tuple #[]) ∧ w' = W.setCell ⟨g, 0, none⟩ (.int .i64 n) := by
  go_enter Tryz.func39, Tryz.ntmps39
  go_wp2
  go_end0
  exact ⟨rfl, rfl⟩
theorem meth_jump (k : Nat) (w : World) : (method 458 165 (.pointer (some ⟨k, 0, none⟩)) "lathe/mealy.jump").run Tryz.prog w = .ok (39, .pointer (some ⟨k, 0, none⟩)) w := by kernel_rfl
theorem meth_step (k : Nat) (w : World) : (method 458 165 (.pointer (some ⟨k, 0, none⟩)) "lathe/mealy.step").run Tryz.prog w = .ok (315, .pointer (some ⟨k, 0, none⟩)) w := by kernel_rfl
theorem Mac.jump {w : World} {m k : Nat} {c : Int} {lv : Value} (h : Mac w m c lv k) (n : Int) : Mac (w.setCell ⟨m, 0, none⟩ (.int .i64 n)) m n lv k :=
  ⟨World.cell?_setCell_same _ _ _ h.c0, by rw [World.frozen?_setCell]; exact h.f0, by rw [World.cell?_setCell_other _ _ _ _ (by simp)]; exact h.c1, by rw [World.cell?_setCell_other _ _ _ _ (by simp)]; exact h.c2⟩
theorem Mac.far {w : World} {m k g : Nat} {c : Int} {lv : Value} (h : Mac w m c lv k) (hne : m ≠ g) (j : Nat) (v : Value) : Mac (w.setCell ⟨g, j, none⟩ v) m c lv k := by
  have hb := Below.heap_setCell w ⟨g, j, none⟩ v m hne
  exact ⟨(World.cell?_of_block hb).trans h.c0, (World.frozen?_of_block hb).trans h.f0, (World.cell?_of_block hb).trans h.c1, (World.cell?_of_block hb).trans h.c2⟩
theorem Lea.jump {w : World} {k : Nat} {c op : Int} {nums ints kept : Value} (h : Lea w k c op nums ints kept) (n : Int) : Lea (w.setCell ⟨k, 0, none⟩ (.int .i64 n)) k n op nums ints kept := by
  obtain ⟨l0, lf, l1, l2, l3, l4, l5, l6, l7, l8, l9, l10⟩ := h
  refine ⟨World.cell?_setCell_same _ _ _ l0, by rw [World.frozen?_setCell]; exact lf, ?_, ?_, ?_, ?_, ?_, ?_, ?_, ?_, ?_, ?_⟩ <;> (rw [World.cell?_setCell_other _ _ _ _ (by simp)]; assumption)
set_option maxHeartbeats 400000 in
set_option maxRecDepth 100000 in
theorem Jump_yes (m k : Nat) (c c' op n : Int) (lv nums ints kept : Value) (W : World) (hM : Mac W m c lv k) (hL : Lea W k c' op nums ints kept) (hne : m ≠ k) (h0 : 0 ≤ n) (h1 : n ≤ 2147483647) : Calls Tryz.prog 14 #[.pointer (some ⟨m, 0, none⟩), .int .i64 n] W fun e w' => e = .returned (.int .i64 0) ∧ Mac w' m n lv k ∧ Lea w' k n op nums ints kept ∧ But [m, k] W w' := by
  have hn0 : ¬ n < 0 := by omega
  have hn1 : ¬ n > 2147483647 := by omega
  have j1 := jump39 m c n W hM.c0 hM.f0
  have hL1 := hL.same (Below.heap_setCell W ⟨m, 0, none⟩ (.int .i64 n) k (Ne.symm hne))
  have j2 := jump39 k c' n _ hL1.c0 hL1.f0
  have m2 : (W.setCell ⟨m, 0, none⟩ (.int .i64 n)).cell? ⟨m, 2, none⟩ = some (.iface 165 (.pointer (some ⟨k, 0, none⟩))) := (hM.jump n).c2
  have hmt := meth_jump k
  go_enter Tryz.func14, Tryz.ntmps14
  go_wp2_with (first | (go_at_call 39; (with_reducible refine j1.mono ?_); rintro e w1 ⟨rfl, rfl⟩) | (go_at_call 39; (with_reducible refine j2.mono ?_); rintro e w1 ⟨rfl, rfl⟩))
  go_ret
  exact ⟨rfl, (hM.jump n).far hne 0 _, hL1.jump n, ((But.refl _ _).set (by simp) _).set (by simp) _⟩
end Go.Proofs.YtpgodgfkbkfpcaaGreat.Bui
