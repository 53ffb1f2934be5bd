/- The pure form of VectorNorms: Norm of vectors. Condition: at most 1048576 numbers in each, and so many vectors. -/
import Derived.Test.YtmfladkimmnccaaRlv
import Derived.Test.YtmfladkimmnccaaPFx1
import Derived.Test.YtmfladkimmnccaaPFx10
import Derived.Test.YtmfladkimmnccaaPFx12
set_option linter.unusedVariables false
set_option linter.unusedSimpArgs false
namespace Go.Proofs.Ytmfladkimmnccaa.Pure
open Go.RowKit Lathe Go.Proofs.Ytmfladkimmnccaa.PF Go.Proofs.Ytmfladkimmnccaa.Rla Go.Proofs.Ytmfladkimmnccaa.Rlb Go.Proofs.Ytmfladkimmnccaa.Rlc Go.Proofs.Ytmfladkimmnccaa.Rlv Go.Proofs.YtmfladkimmnccaaW.PrintWords Go.Proofs.YtmfladkimmnccaaW.PrintMore
open Go.Proofs.Ytmfladkimmnccaa.Rld (Sqrt_f)

def CC (ms : List (List Nat)) : List (List Int) := ms.map C
theorem CC_len (ms : List (List Nat)) : (CC ms).length = ms.length := by simp [CC]
theorem getD_cc (ms : List (List Nat)) (i : Nat) : (CC ms).getD i [] = C (ms.getD i []) := by
  unfold CC
  simp only [List.getD_eq_getElem?_getD, List.getElem?_map]
  cases ms[i]? <;> rfl
theorem rd_L1_c (ms : List (List Nat)) (i : Nat) : rd_L1 (CC ms) (i : Int) = C (ms.getD i []) := by
  unfold rd_L1
  rw [Int.toNat_natCast, getD_cc]
theorem rd_L3_c (ms : List (List Nat)) (i : Nat) : rd_L3 (CC ms) (i : Int) = C (ms.getD i []) := by
  unfold rd_L3
  rw [Int.toNat_natCast, getD_cc]
def All (ms : List (List Nat)) : Prop := ∀ i, (ms.getD i []).length ≤ 1048576 ∧ Pats (ms.getD i [])
abbrev sq (m : List Nat) : Nat := lp (sqF m) m.length 0 0
abbrev normF (ms : List (List Nat)) (s i : Nat) : Nat := fadd s (sq (ms.getD i []))
theorem sq_lt (m : List Nat) : sq m < 4294967296 := lp_lt (fun _ _ => fadd_lt _ _) _ _ _ (by omega)

theorem vNorm_l (ms : List (List Nat)) (hm : ms.length ≤ 1048576) (ha : All ms) : ∀ (d i s k : Nat), i + d = ms.length → d + 1048576 + 100 < k → vector_Norm.l0 k (s : Int) (CC ms) (ms.length : Int) (i : Int) = some ((fsqrt (lp (normF ms) d i s) : Nat) : Int)
  | 0, i, s, k, h, hk => by
    obtain ⟨k, rfl⟩ : ∃ j, k = j + 1 := ⟨k - 1, by omega⟩
    rw [vector_Norm.l0, if_neg (by omega)]
    unfold float_Sqrt.f
    simp -implicitDefEqProofs only [Option.bind_some, Int.toNat_natCast]
    rfl
  | d + 1, i, s, k, h, hk => by
    obtain ⟨k, rfl⟩ : ∃ j, k = j + 1 := ⟨k - 1, by omega⟩
    have := (ha i).1
    rw [vector_Norm.l0, if_pos (by omega), if_pos (by omega), if_pos (by rw [CC_len]; omega), rd_L1_c, vSq _ (ha i).1 k (by omega)]
    simp -implicitDefEqProofs only [Option.bind_some]
    rw [add_p]
    simp -implicitDefEqProofs only [Option.bind_some]
    rw [up1 (by omega)]
    exact vNorm_l ms hm ha d (i + 1) _ k (by omega) (by omega)
theorem rNorm_l (ms : List (List Nat)) (hm : ms.length ≤ 1048576) (ha : All ms) : ∀ (d i s k : Nat), i + d = ms.length → d + 1048576 + 300 < k → s < 4294967296 → latheref05_Norm.l0 k (CC ms) (s : Int) (i : Int) = some ((fsqrt (lp (normF ms) d i s) : Nat) : Int)
  | 0, i, s, k, h, hk, hs => by
    obtain ⟨k, rfl⟩ : ∃ j, k = j + 1 := ⟨k - 1, by omega⟩
    rw [latheref05_Norm.l0, if_neg (by rw [CC_len]; omega), Sqrt_f k s hs (by omega)]
    rfl
  | d + 1, i, s, k, h, hk, hs => by
    obtain ⟨k, rfl⟩ : ∃ j, k = j + 1 := ⟨k - 1, by omega⟩
    have := (ha i).1
    rw [latheref05_Norm.l0, if_pos (by rw [CC_len]; omega), if_pos (by omega), rd_L3_c, rSq _ (ha i).1 (ha i).2 k (by omega)]
    simp -implicitDefEqProofs only [Option.bind_some]
    rw [Add_f k s _ hs (sq_lt _) (by omega)]
    simp -implicitDefEqProofs only [Option.bind_some]
    rw [up1 (by omega)]
    exact rNorm_l ms hm ha d (i + 1) _ k (by omega) (by omega) (fadd_lt _ _)
theorem CC_append (a b : List (List Nat)) : CC (a ++ b) = CC a ++ CC b := by simp [CC]
theorem drop_cons' {ms : List (List Nat)} {i : Nat} (h : i < ms.length) : ms.drop i = ms.getD i [] :: ms.drop (i + 1) := by
  rw [List.drop_eq_getElem_cons h]
  simp [List.getD_eq_getElem?_getD, h]
theorem lists_l (ms : List (List Nat)) (hm : ms.length ≤ 1048576) (ha : All ms) : ∀ (d i k : Nat) (acc : List (List Nat)), i + d = ms.length → acc.length = i → d + 1048576 + 100 < k → lathelaw05_lists.l0 k (CC ms) (CC acc) (i : Int) = some (CC (acc ++ ms.drop i))
  | 0, i, k, acc, h, hl, hk => by
    obtain ⟨k, rfl⟩ : ∃ j, k = j + 1 := ⟨k - 1, by omega⟩
    rw [lathelaw05_lists.l0, if_neg (by rw [CC_len]; omega), List.drop_eq_nil_of_le (by omega), List.append_nil]
  | d + 1, i, k, acc, h, hl, hk => by
    obtain ⟨k, rfl⟩ : ∃ j, k = j + 1 := ⟨k - 1, by omega⟩
    have := (ha i).1
    rw [lathelaw05_lists.l0, if_pos (by rw [CC_len]; omega), if_pos (by omega), rd_L1_c, ints_p _ (ha i).1 (ha i).2 k (by omega)]
    simp -implicitDefEqProofs only [Option.bind_some]
    rw [if_pos (by rw [CC_len]; omega), up1 (by omega)]
    have e : CC acc ++ [C (ms.getD i [])] = CC (acc ++ [ms.getD i []]) := by rw [CC_append]; rfl
    rw [e, lists_l ms hm ha d (i + 1) k (acc ++ [ms.getD i []]) (by omega) (by simp [hl]) (by omega), drop_cons' (show i < ms.length by omega), List.append_assoc]
    rfl

theorem VectorNorms (l : List (List Int)) (h : l.length ≤ 1048576) (hi : ∀ x ∈ l, x.length ≤ 1048576) (w : ∀ x ∈ l, ∀ y ∈ x, (Lit.int .u32 y).wf = true) : ∃ k, lathelaw05_VectorNorms.f k l = some true := by
  have hl : ∃ ms : List (List Nat), l = CC ms ∧ All ms := by
    have : ∀ l : List (List Int), (∀ x ∈ l, x.length ≤ 1048576) → (∀ x ∈ l, ∀ y ∈ x, (Lit.int .u32 y).wf = true) → ∃ ms : List (List Nat), l = CC ms ∧ All ms := by
      intro l
      induction l with
      | nil => exact fun _ _ => ⟨[], rfl, fun i => by simp [Pats]⟩
      | cons x l ih =>
        intro h1 h2
        obtain ⟨ms, rfl, ha⟩ := ih (fun x hx => h1 x (List.mem_cons_of_mem _ hx)) (fun x hx => h2 x (List.mem_cons_of_mem _ hx))
        obtain ⟨m, rfl, hp⟩ := of_wf (h2 x List.mem_cons_self)
        have hlen := h1 _ List.mem_cons_self
        rw [C_len] at hlen
        refine ⟨m :: ms, rfl, fun i => ?_⟩
        cases i with
        | zero => exact ⟨hlen, hp⟩
        | succ i => exact ha i
    exact this l hi w
  obtain ⟨ms, rfl, ha⟩ := hl
  rw [CC_len] at h
  obtain ⟨k, hk⟩ : ∃ k, 2097152 + 1000 ≤ k := ⟨2097152 + 1000, Nat.le_refl _⟩
  refine ⟨k, ?_⟩
  have v := vNorm_l ms h ha ms.length 0 0 k (by omega) (by omega)
  have r := rNorm_l ms h ha ms.length 0 0 k (by omega) (by omega) (by omega)
  have ls := lists_l ms h ha ms.length 0 k [] (by omega) rfl (by omega)
  have v : vector_Norm.f k (CC ms) = some ((fsqrt (lp (normF ms) ms.length 0 0) : Nat) : Int) := by
    unfold vector_Norm.f
    rw [CC_len]
    exact v
  have r : latheref05_Norm.f k (CC ms) = some ((fsqrt (lp (normF ms) ms.length 0 0) : Nat) : Int) := r
  have ls : lathelaw05_lists.f k (CC ms) = some (CC ms) := by
    unfold lathelaw05_lists.f
    simpa [CC] using ls
  unfold lathelaw05_VectorNorms.f
  rw [v, ls]
  simp -implicitDefEqProofs only [Option.bind_some]
  rw [r]
  simp -implicitDefEqProofs only [Option.bind_some]
  have := fsqrt_lt (lp (normF ms) ms.length 0 0)
  rw [w64 (by omega) (by omega), if_pos rfl, sure_p k (by omega)]
  rfl
end Go.Proofs.Ytmfladkimmnccaa.Pure
