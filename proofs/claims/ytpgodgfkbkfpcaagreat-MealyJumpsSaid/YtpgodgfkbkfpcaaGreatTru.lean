/- The later rows of check's table. No condition. -/
import Derived.Test.YtpgodgfkbkfpcaaGreatTrs
import Derived.Deep.CutBlock
import Derived.Deep.DeepCutAuto
set_option linter.unusedVariables false
set_option linter.unusedSimpArgs false
namespace Go.Proofs.YtpgodgfkbkfpcaaGreat.Tru
open Go.Shelf Go.RowKit Go.Proofs.YtpgodgfkbkfpcaaGreat.Trb
set_option maxHeartbeats 1000000 in
set_option maxRecDepth 100000 in
theorem later (W : World) : Calls Tryz.prog 208 #[.agg Trs.avInner] W fun e w' => ∃ v, e = .returned v ∧ Kd.holds (.rows Trs.L208) v w' ∧ Below W.heap.size W w' := by
  have hm : Tryz.prog.follows .mixedOrders = true := by kernel_rfl
  unfold Trs.avInner av
  go_enter Tryz.func208, Tryz.ntmps208
  go_upto_region 2 with fail
  go_cut [0, 1, 2] from 3 (fun v0 v1 v2 w => Kd.holds (.rows Trs.L208) v2 w ∧ Below W.heap.size W w)
  case first =>
    rename_i J K' hJ hK
    refine Rin.wp_region_to (l' := Trs.ops) (by kernel_rfl) ?_
    refine Rin.wp_region_slots 51 58 Trs.D (T (Trs.KL 0)) hm (by kernel_rfl) (by kernel_rfl) (by kernel_rfl) rfl (by decide +kernel) (fun i j hi hj => (by decide +kernel : ∀ i, i < 51 → ∀ j, j < 51 → Trs.D i = Trs.D j → i = j) i hi j hj) (fun _ _ _ _ => T.on) ?_ ?_
    · intro i o a w hi ho hR hS
      exact Trs.steps rfl (heap_on (heap_on (heap_alloc_new _ _) (below_alloc _ _)) (below_alloc _ _)) rfl (heap_on (Tab.new_at _ _ (by simp)) (below_alloc _ _)) rfl (Tab.new_at _ _ (by simp)) i hi _ a w hR fun k hk he => hS k hk (by rw [ho] at he; simpa using he)
    · intro a w hR hS
      have h57 : Kd.holds (.rows Trs.L208) (a.eval (.tmp 57)) w := hS 50 (by omega)
      refine Rin.step_assign (d := some 2) (x := .tmp 57) (by kernel_rfl) ?_
      refine hK _ _ (Met.intro (hJ _ _ ?_))
      (repeat apply Exists.intro)
      refine ⟨?_, Rin.act_list 58 _ ?_ ?_⟩
      rotate_left
      · show (a.tmps.setIfInBounds 2 _).size = 58
        rw [Array.size_setIfInBounds]; exact hR.size
      · exact hR.defers
      refine ⟨?_, ?_⟩
      · show Kd.holds _ ((a.put (some 2) (a.eval (.tmp 57))).eval (.tmp 2)) w
        rw [Rin.eval_put _ _ _ (by rw [hR.size]; decide)]; exact h57
      · exact Tab.then_ (Tab.then_ (Tab.then_ (below_alloc _ _) (by simp) (below_alloc _ _)) (by simp; omega) (below_alloc _ _)) (by simp; omega) hR.below
  case rest =>
    obtain ⟨hv, hB⟩ := hcut
    go_wp2
    go_ret
    exact ⟨_, rfl, hv, hB⟩
end Go.Proofs.YtpgodgfkbkfpcaaGreat.Tru
