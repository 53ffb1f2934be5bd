/- MealyJumps answers true. No condition. -/
import Derived.Test.YtpgodgfkbkfpcaaGreatSux
set_option linter.unusedVariables false
set_option linter.unusedSimpArgs false
namespace Go.Proofs.YtpgodgfkbkfpcaaGreat.Mju
open Go.Shelf Go.RowKit Go.Proofs.YtpgodgfkbkfpcaaGreat.Trb Go.Proofs.YtpgodgfkbkfpcaaGreat.Bui Go.Proofs.YtpgodgfkbkfpcaaGreat.Fom Go.Proofs.YtpgodgfkbkfpcaaGreat.Tim
set_option maxHeartbeats 2000000 in
set_option maxRecDepth 100000 in
theorem good (n : Int) (W : World) (h0 : 0 ≤ n) (h1 : n ≤ 2147483647) : Calls Tryz.prog 4 #[.int .i64 n] W fun e w' => e = .returned (.bool true) ∧ Below W.heap.size W w' := by
  have q0 : n ≥ 0 := h0
  have q1 : n < 2147483648 := by omega
  have hNew := New_id
  unfold Mea.tx at hNew
  have hw : wrap64 (n + 1) = n + 1 := by unfold wrap64; omega
  have hnx : nx n = min (n + 1) 2147483647 := rfl
  go_enter Tryz.func4, Tryz.ntmps4
  go_upto_region 2 with (go_at_call 21; refine (hNew _).mono ?_; rintro e w1 ⟨⟨m, k, lp, rfl, hm, hk, hne, hM, hL⟩, hB1⟩)
  have hX : ∀ j, j ∈ [m, k] → W.heap.size ≤ j := fun j hj => by
    simp only [List.mem_cons, List.not_mem_nil, or_false] at hj
    rcases hj with rfl | rfl <;> assumption
  have hj := Jump_yes m k 0 0 1 n _ _ _ _ w1 hM hL hne h0 h1
  clear hNew hM hL
  go_upto_region 9 with (go_at_call 14; (with_reducible refine hj.mono ?_); rintro e w2 ⟨rfl, hM2, hL2, hb2⟩)
  have hct := Count m k n _ w2 hM2
  have hst := Step0 m k n n lp 0 _ _ _ w2 hM2 hL2 hne h0 h1 h0 h1
  have hB2 : Below W.heap.size W w2 := hB1.trans (hb2.below hB1.size hX)
  clear hj hM2 hL2 hb2 hB1
  go_upto_region 12 with (first | (go_at_call 20; (with_reducible refine hct.mono ?_); rintro e w3 ⟨rfl, hw3⟩; have hw3 := hw3.symm; subst hw3) | (go_at_call 17; (with_reducible refine hst.mono ?_); rintro e w4 ⟨rfl, hM4, hL4, hb4⟩))
  have hct4 := Count m k (nx n) _ w4 hM4
  have hB4 : Below W.heap.size W w4 := hB2.trans (hb4.below hB2.size hX)
  have hsu := sure w4
  clear hct hst hb4 hM4 hL4 hB2
  go_wp2_with (first | (go_at_call 20; (with_reducible refine hct4.mono ?_); rintro e w5 ⟨rfl, hw5⟩; have hw5 := hw5.symm; subst hw5) | (go_at_call 11; (with_reducible refine hsu.mono ?_); rintro e w6 ⟨rfl, hb6⟩))
  go_ret
  exact ⟨rfl, Tab.then_ hB4 hB4.size hb6⟩
set_option maxHeartbeats 2000000 in
set_option maxRecDepth 100000 in
theorem bad (n : Int) (W : World) (h : n < 0 ∨ 2147483647 < n) : Calls Tryz.prog 4 #[.int .i64 n] W fun e w' => e = .returned (.bool true) ∧ Below W.heap.size W w' := by
  have hNew := New_id
  unfold Mea.tx at hNew
  go_enter Tryz.func4, Tryz.ntmps4
  go_upto_region 2 with (go_at_call 21; refine (hNew _).mono ?_; rintro e w1 ⟨⟨m, k, lp, rfl, hm, hk, hne, hM, hL⟩, hB1⟩)
  have hX : ∀ j, j ∈ [m, k] → W.heap.size ≤ j := fun j hj => by
    simp only [List.mem_cons, List.not_mem_nil, or_false] at hj
    rcases hj with rfl | rfl <;> assumption
  have hj := Jump_no m n w1 h
  clear hNew
  go_upto_region 5 with (go_at_call 14; (with_reducible refine hj.mono ?_); rintro e w2 ⟨rfl, hw2⟩; have hw2 := hw2.symm; subst hw2)
  have hct := Count m k 0 _ w1 hM
  have hst := Step0 m k 0 0 lp 0 _ _ _ w1 hM hL hne (by omega) (by omega) (by omega) (by omega)
  clear hj hM hL
  by_cases hn : n < 0
  · have q0 : ¬ n ≥ 0 := by omega
    go_upto_region 12 with (first | (go_at_call 20; (with_reducible refine hct.mono ?_); rintro e w3 ⟨rfl, hw3⟩; have hw3 := hw3.symm; subst hw3) | (go_at_call 17; (with_reducible refine hst.mono ?_); rintro e w4 ⟨rfl, hM4, hL4, hb4⟩))
    have hct4 := Count m k (nx 0) _ w4 hM4
    have hB4 : Below W.heap.size W w4 := hB1.trans (hb4.below hB1.size hX)
    have hsu := sure w4
    clear hct hst hb4 hM4 hL4 hB1 hX h hm hk hne
    generalize hc : (0 : Int) = c at hct4 ⊢
    have hw : wrap64 (c + 1) = c + 1 := by unfold wrap64; omega
    have hnx : nx c = min (c + 1) 2147483647 := rfl
    clear hc
    go_wp2_with (first | (go_at_call 20; (with_reducible refine hct4.mono ?_); rintro e w5 ⟨rfl, hw5⟩; have hw5 := hw5.symm; subst hw5) | (go_at_call 11; (with_reducible refine hsu.mono ?_); rintro e w6 ⟨rfl, hb6⟩))
    go_ret
    exact ⟨rfl, Tab.then_ hB4 hB4.size hb6⟩
  · have q0 : n ≥ 0 := by omega
    have q1 : ¬ n < 2147483648 := by omega
    go_upto_region 12 with (first | (go_at_call 20; (with_reducible refine hct.mono ?_); rintro e w3 ⟨rfl, hw3⟩; have hw3 := hw3.symm; subst hw3) | (go_at_call 17; (with_reducible refine hst.mono ?_); rintro e w4 ⟨rfl, hM4, hL4, hb4⟩))
    have hct4 := Count m k (nx 0) _ w4 hM4
    have hB4 : Below W.heap.size W w4 := hB1.trans (hb4.below hB1.size hX)
    have hsu := sure w4
    clear hct hst hb4 hM4 hL4 hB1 hX h hm hk hne
    generalize hc : (0 : Int) = c at hct4 ⊢
    have hw : wrap64 (c + 1) = c + 1 := by unfold wrap64; omega
    have hnx : nx c = min (c + 1) 2147483647 := rfl
    clear hc
    go_wp2_with (first | (go_at_call 20; (with_reducible refine hct4.mono ?_); rintro e w5 ⟨rfl, hw5⟩; have hw5 := hw5.symm; subst hw5) | (go_at_call 11; (with_reducible refine hsu.mono ?_); rintro e w6 ⟨rfl, hb6⟩))
    go_ret
    exact ⟨rfl, Tab.then_ hB4 hB4.size hb6⟩
theorem walk (n : Int) (W : World) : Calls Tryz.prog 4 #[.int .i64 n] W fun e w' => e = .returned (.bool true) ∧ Below W.heap.size W w' := by
  by_cases h : n < 0 ∨ 2147483647 < n
  · exact bad n W h
  · exact good n W (by omega) (by omega)
end Go.Proofs.YtpgodgfkbkfpcaaGreat.Mju
