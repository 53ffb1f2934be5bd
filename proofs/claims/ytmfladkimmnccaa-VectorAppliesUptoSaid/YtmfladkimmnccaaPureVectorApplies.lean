/- The pure form of VectorApplies: Apply of all lists is the reference's. Condition: at most 1048576 numbers in each, and so many lists. -/
import Derived.Test.YtmfladkimmnccaaRlw
import Derived.Test.YtmfladkimmnccaaPGx14
set_option linter.unusedVariables false
set_option linter.unusedSimpArgs false
namespace Go.Proofs.Ytmfladkimmnccaa.Pure
open Go.RowKit Lathe Go.Proofs.Ytmfladkimmnccaa.PG Go.Proofs.Ytmfladkimmnccaa.Rla Go.Proofs.Ytmfladkimmnccaa.Rlw Go.Proofs.YtmfladkimmnccaaW.PrintWords Go.Proofs.YtmfladkimmnccaaW.PrintMore

theorem each_l (ms : List (List Nat)) (hm : ms.length ≤ 1048576) (ha : All ms) : ∀ (d i k : Nat), i + d = ms.length → d + 1048576 + 100 < k → lathelaw05_VectorApplies.l0 k (CC ms) (CC ms) (i : Int) = some true
  | 0, i, k, h, hk => by
    obtain ⟨k, rfl⟩ : ∃ j, k = j + 1 := ⟨k - 1, by omega⟩
    rw [lathelaw05_VectorApplies.l0, if_neg (by rw [CC_len]; omega), sure_p k (by omega)]
    rfl
  | d + 1, i, k, h, hk => by
    obtain ⟨k, rfl⟩ : ∃ j, k = j + 1 := ⟨k - 1, by omega⟩
    have := (ha i).1
    rw [lathelaw05_VectorApplies.l0, if_pos (by rw [CC_len]; omega), if_pos (by omega), if_pos (by rw [CC_len]; omega), rd_L1_c, alike_p _ (ha i).1 (ha i).2 k (by omega)]
    simp -implicitDefEqProofs only [Option.bind_some]
    rw [if_pos trivial, up1 (by omega)]
    exact each_l ms hm ha d (i + 1) k (by omega) (by omega)
theorem VectorApplies (op : Int) (l : List (List Int)) (h : l.length ≤ 1048576) (hi : ∀ x ∈ l, x.length ≤ 1048576) (w : ∀ x ∈ l, ∀ y ∈ x, (Lit.int .u32 y).wf = true) : ∃ k, lathelaw05_VectorApplies.f k op l = some true := by
  obtain ⟨ms, rfl, ha⟩ := to_cc l hi w
  rw [CC_len] at h
  obtain ⟨k, hk⟩ : ∃ k, 2097152 + 1000 ≤ k := ⟨2097152 + 1000, Nat.le_refl _⟩
  refine ⟨k, ?_⟩
  obtain ⟨m, e, a1, a2, hp, hl⟩ := applies ms h ha op
  have tw := twins_l ms h ha ms.length 0 k [] (by omega) rfl (by omega)
  have ls := lists_l ms h ha ms.length 0 k [] (by omega) rfl (by omega)
  have tw : lathelaw05_twins.f k (CC ms) = some (CC ms) := by
    unfold lathelaw05_twins.f
    simpa [CC] using tw
  have ls : lathelaw05_lists.f k (CC ms) = some (CC ms) := by
    unfold lathelaw05_lists.f
    simpa [CC] using ls
  have v : vector_Apply.f op (CC ms) = some (C m, e) := a1
  have r : latheref05_Apply.f op (CC ms) = some (C m, e) := a2
  unfold lathelaw05_VectorApplies.f
  rw [tw]
  simp -implicitDefEqProofs only [Option.bind_some]
  rw [v]
  simp -implicitDefEqProofs only [Option.bind_some]
  rw [ls]
  simp -implicitDefEqProofs only [Option.bind_some]
  rw [r]
  simp -implicitDefEqProofs only [Option.bind_some]
  rw [same_p m hl hp k (by omega)]
  simp -implicitDefEqProofs only [Option.bind_some]
  obtain ⟨k, rfl⟩ : ∃ j, k = j + 1 := ⟨k - 1, by omega⟩
  rw [if_pos trivial, lathelaw05_VectorApplies.j0, show (e != e) = false by simp, if_neg (by decide)]
  exact each_l ms h ha ms.length 0 k (by omega) (by omega)
end Go.Proofs.Ytmfladkimmnccaa.Pure
