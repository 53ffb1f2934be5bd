/- A step of the machine at identity. No condition. -/
import Derived.Test.YtpgodgfkbkfpcaaGreatJum
import Derived.Deep.RegionHeld3
import Derived.Deep.CutBlock
import Derived.Deep.DeepCutAuto
set_option linter.unusedVariables false
set_option linter.unusedSimpArgs false
namespace Go.Proofs.YtpgodgfkbkfpcaaGreat.Bui
open Go.Shelf Go.RowKit Go.Proofs.YtpgodgfkbkfpcaaGreat.Trb Go.Proofs.YtpgodgfkbkfpcaaGreat.Fom
/-- One more, at most the greatest count. -/
def nx (c : Int) : Int := min (c + 1) 2147483647
set_option maxHeartbeats 400000 in
set_option maxRecDepth 100000 in
theorem tick (g : Nat) (c : Int) (W : World) (h0 : 0 ≤ c) (h1 : c ≤ 2147483647) (hc : W.cell? ⟨g, 0, none⟩ = some (.int .i64 c)) (hf : W.frozen? ⟨g, 0, none⟩ = false) : Calls Tryz.prog 42 #[.pointer (some ⟨g, 0, none⟩)] W fun e w' => e = .returned (.int .i64 c) ∧ w' = W.setCell ⟨g, 0, none⟩ (.int .i64 (nx c)) := by
  have hw : wrap64 (c + 1) = c + 1 := by unfold wrap64; omega
  go_enter Tryz.func42, Tryz.ntmps42
  go_wp2
  go_ret
  exact ⟨rfl, rfl⟩
set_option maxHeartbeats 400000 in
set_option maxRecDepth 100000 in
theorem pieces0 (m : Nat) (W : World) : Calls Tryz.prog 43 #[.pointer (some ⟨m, 0, none⟩), .slice none 0 0] W fun e w' => e = .returned (.slice none 0 0) ∧ w' = W := by
  go_enter Tryz.func43, Tryz.ntmps43
  go_wp2
  refine wp_loop_rounds 1 ?_
  rw [rounds_succ]
  go_wp2
  go_ret
  exact ⟨rfl, rfl⟩
set_option maxHeartbeats 400000 in
set_option maxRecDepth 100000 in
theorem fits0 (lp : Option Addr) (lc : Nat) (W : World) : Calls Tryz.prog 41 #[.slice lp 0 lc, .slice none 0 0] W fun e w' => e = .returned (.bool true) ∧ w' = W := by
  go_enter Tryz.func41, Tryz.ntmps41
  go_wp2
  refine wp_loop_rounds 1 ?_
  rw [rounds_succ]
  go_wp2
  go_ret
  exact ⟨rfl, rfl⟩
set_option maxHeartbeats 400000 in
set_option maxRecDepth 100000 in
theorem leaf0 (k : Nat) (c : Int) (W : World) (h0 : 0 ≤ c) (h1 : c ≤ 2147483647) (l0 : W.cell? ⟨k, 0, none⟩ = some (.int .i64 c)) (lf : W.frozen? ⟨k, 0, none⟩ = false) (l1 : W.cell? ⟨k, 1, none⟩ = some (.int .i64 1)) : Calls Tryz.prog 315 #[.pointer (some ⟨k, 0, none⟩), .slice none 0 0, .slice none 0 0] W fun e w' => e = .returned (.slice none 0 0) ∧ w' = W.setCell ⟨k, 0, none⟩ (.int .i64 (nx c)) := by
  have ht := tick k c W h0 h1 l0 lf
  have l1' : (W.setCell ⟨k, 0, none⟩ (.int .i64 (nx c))).cell? ⟨k, 1, none⟩ = some (.int .i64 1) := by rw [World.cell?_setCell_other _ _ _ _ (by simp)]; exact l1
  go_enter Tryz.func315, Tryz.ntmps315
  go_wp2_with (go_at_call 42; refine ht.mono ?_; rintro e w1 ⟨rfl, rfl⟩)
  refine wp_loop_rounds 1 ?_
  rw [rounds_succ]
  go_wp2
  go_ret
  exact ⟨rfl, rfl⟩
theorem But.drew {X : List Nat} {w w' : World} (h : But X w w') : But X w w'.drew := ⟨h.os, h.tape, h.output, h.size, h.block⟩
set_option maxHeartbeats 1000000 in
set_option maxRecDepth 100000 in
theorem Step0 (m k : Nat) (n c : Int) (lp : Option Addr) (lc : Nat) (nums ints kept : Value) (W : World) (hM : Mac W m n (.slice lp 0 lc) k) (hL : Lea W k c 1 nums ints kept) (hne : m ≠ k) (h0 : 0 ≤ n) (h1 : n ≤ 2147483647) (h2 : 0 ≤ c) (h3 : c ≤ 2147483647) :
    Calls Tryz.prog 17 #[.pointer (some ⟨m, 0, none⟩), .slice none 0 0, .slice none 0 0] W fun e w' => e = .returned (.tuple #[.slice none 0 0, .int .i64 0]) ∧ Mac w' m (nx n) (.slice lp 0 lc) k ∧ Lea w' k (nx c) 1 nums ints kept ∧ But [m, k] W w' := by
  have ht := tick m n W h0 h1 hM.c0 hM.f0
  have hL1 := hL.same (Below.heap_setCell W ⟨m, 0, none⟩ (.int .i64 (nx n)) k (Ne.symm hne))
  have hM1 := hM.jump (nx n)
  have g0 : (World.drew (W.setCell ⟨m, 0, none⟩ (.int .i64 (nx n)))).cell? ⟨k, 0, none⟩ = some (.int .i64 c) := hL1.c0
  have g1 : (World.drew (W.setCell ⟨m, 0, none⟩ (.int .i64 (nx n)))).cell? ⟨k, 1, none⟩ = some (.int .i64 1) := hL1.c1
  have gf : (World.drew (W.setCell ⟨m, 0, none⟩ (.int .i64 (nx n)))).frozen? ⟨k, 0, none⟩ = false := hL1.f0
  have hlf := leaf0 k c _ h2 h3 g0 gf g1
  clear g0 g1 gf
  have hne' : k ≠ m := Ne.symm hne
  have hmt := meth_step k
  have m1 := hM.c1
  have r2 := hM1.c2
  have hR2 := (hM1.far hne 0 (.int .i64 (nx c)))
  have hF := hL1.jump (nx c)
  go_enter Tryz.func17, Tryz.ntmps17
  go_upto_region 5 with (first | (go_at_call 41; refine (fits0 _ _ _).mono ?_; rintro e w1 ⟨rfl, rfl⟩) | (go_at_call 42; refine ht.mono ?_; rintro e w1 ⟨rfl, rfl⟩))
  go_region_held3 (fun w' => w'.cell? ⟨m, 2, none⟩ = some (.iface 165 (.pointer (some ⟨k, 0, none⟩)))) (go_keep)
    (first | (go_at_call 43; refine (pieces0 _ _).mono ?_; rintro e w1 ⟨rfl, rfl⟩) | (go_at_call 315; refine hlf.mono ?_; rintro e w1 ⟨rfl, rfl⟩))
  go_wp2
  refine wp_loop_rounds 1 ?_
  rw [rounds_succ]
  go_wp2
  go_ret2
  exact ⟨rfl, ⟨hR2.c0, hR2.f0, hR2.c1, hR2.c2⟩, ⟨hF.c0, hF.f0, hF.c1, hF.c2, hF.c3, hF.c4, hF.c5, hF.c6, hF.c7, hF.c8, hF.c9, hF.c10⟩, But.set (But.drew (But.set (But.refl _ _) (by simp) _)) (by simp) _⟩
end Go.Proofs.YtpgodgfkbkfpcaaGreat.Bui
