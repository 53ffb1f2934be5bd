/- The pure form of VectorOwn: what its walk asks of the functions that it calls. Condition: at most 1048576 numbers. -/
import Derived.Test.YtmfladkimmnccaaRlw
import Derived.Test.YtmfladkimmnccaaVow
set_option linter.unusedVariables false
set_option linter.unusedSimpArgs false
namespace Go.Proofs.Ytmfladkimmnccaa.Pure
open Go.RowKit Lathe Go.Proofs.Ytmfladkimmnccaa.PG Go.Proofs.Ytmfladkimmnccaa.Rla Go.Proofs.Ytmfladkimmnccaa.Rlw Go.Proofs.YtmfladkimmnccaaW.PrintWords Go.Proofs.YtmfladkimmnccaaW.PrintMore

theorem VectorOwn (A0 : Option Addr) (c0 : Nat) (l0 : List Int) (w : World) (hr0 : Kd.C (Kd.int .u32) w A0 l0.length l0) (hc0 : l0.length ≤ c0) (hl : l0.length ≤ 1048576) (hw : ∀ y ∈ l0, (Lit.int .u32 y).wf = true) :
    Calls Try.prog 13 #[.slice A0 l0.length c0] w fun e w' => e = .returned (.bool true) ∧ Below w.heap.size w w' := by
  obtain ⟨m, rfl, hp⟩ := of_wf hw
  rw [C_len] at hl
  have ha : All [m] := fun i => by
    cases i with
    | zero => exact ⟨hl, hp⟩
    | succ i => exact ⟨by simp, fun j => by simp⟩
  obtain ⟨k, hk⟩ : ∃ k, 2097152 + 1000 ≤ k := ⟨2097152 + 1000, Nat.le_refl _⟩
  obtain ⟨b, e, a1, _, _, hb⟩ := applies [m] (by show 1 ≤ 1048576; decide) ha 3
  have tw : lathelaw05_twin.f (C m) = some (C m) := by
    unfold lathelaw05_twin.f
    rw [if_pos (by rw [C_len]; show 0 + _ < _; omega), List.nil_append]
  have cn1 := vCan_l m hl hp m.length 0 k [] (by omega) rfl (by omega)
  have cn1 : vector_Canon.f k (C m) = some (C (cn m)) := by
    unfold vector_Canon.f
    rw [C_len]
    simpa [C] using cn1
  have fi0 : vector_Fill.f 20 3 1065353216 = some ([1065353216, 1065353216, 1065353216], 0) := by decide +kernel
  have fi : vector_Fill.f k 3 1065353216 = some ([1065353216, 1065353216, 1065353216], 0) := at_rounds (g := fun k => vector_Fill.f k 3 1065353216) (vector_Fill.mono 3 1065353216) (by omega) fi0
  have po : Pats [1065353216, 1065353216, 1065353216] := fun i => by
    match i with
    | 0 => decide
    | 1 => decide
    | 2 => decide
    | i + 3 => simp
  exact Vow.own k A0 c0 (C m) w hr0 hc0 (C b) (C (cn m)) e (by rw [C_len]; exact hl) (by rw [C_len]; exact hb) (by rw [C_len]; simp [cn]; exact hl) tw a1 cn1 fi (alike_p m hl hp k (by omega)) (alike_p [1065353216, 1065353216, 1065353216] (by decide) po k (by show 3 < k; omega)) (sure_p k (by omega))
end Go.Proofs.Ytmfladkimmnccaa.Pure
