/- What Show tells of a list of tokens: its pieces, joined. Conditions: the list's length, its texts' lengths. -/
import Derived.Test.YtmfladkimmnccaaPLx12
import Derived.Test.YtmfladkimmnccaaLxp
import Derived.Test.YtmfladkimmnccaaLxg
set_option linter.unusedVariables false
set_option linter.unusedSimpArgs false
namespace Go.Proofs.Ytmfladkimmnccaa.Pure
open Go.RowKit Go.Proofs.Ytmfladkimmnccaa.PL Go.Proofs.YtmfladkimmnccaaW.PrintWords Go.Proofs.YtmfladkimmnccaaW.PrintLast Go.Proofs.Ytmfladkimmnccaa.Lx

/-- A token's piece. -/
def pcs (t : S32) : Option ByteArray :=
  if t.f0 = 1 ∨ t.f0 = 2 ∨ t.f0 = 3 then some t.f1 else if t.f0 = 4 then some (((⟨#[34]⟩ : ByteArray) ++ t.f1) ++ (⟨#[34]⟩ : ByteArray))
  else if 5 ≤ t.f0 ∧ t.f0 ≤ 10 then some (MK.extract (t.f0 - 5).toNat (t.f0 - 5 + 1).toNat) else none
theorem J_join : ∀ ps : List ByteArray, J ps = ⟨(Lib.join (ps.map (·.data.toList)) [32]).toArray⟩ := by
  intro ps
  induction ps with
  | nil => rfl
  | cons p ps ih =>
    cases ps with
    | nil =>
      show p = _
      apply ByteArray.ext
      simp [Lib.join_one]
    | cons q r =>
      show p ++ (B1 ++ J (q :: r)) = _
      rw [ih]
      apply ByteArray.ext
      simp only [List.map_cons]
      rw [Lib.join_cons, Lib.join_cons]
      simp [ByteArray.data_append, B1, Lib.joinTail]
theorem J_size (ps : List ByteArray) : (J ps).size = (Lib.join (ps.map (·.data.toList)) [32]).length := by
  rw [J_join]
  show (Lib.join (ps.map (·.data.toList)) [32]).toArray.size = _
  simp
theorem show_step {L : List S32} {acc : List ByteArray} {i k : Nat} {t : S32} (hi : i < L.length) (hacc : acc.length ≤ i) (hL : L.length < 8796093022208) (ht : rd_T32 L (i : Int) = t) (hsz : t.f1.size ≤ 9223372036854775800) :
    lex_Show.l0 (k + 2) acc L (L.length : Int) (i : Int) = lex_Show.l0 k (acc ++ (pcs t).toList) L (L.length : Int) ((i + 1 : Nat) : Int) := by
  have hw : wrap64 ((i : Int) + 1) = ((i + 1 : Nat) : Int) := by unfold wrap64; omega
  have hal : acc.length < 8796093022208 := by omega
  have hl : ∀ x, lex_Show.l0 (k + 2) acc L (L.length : Int) (i : Int) = x ↔ (if t.f0 = 1 then lex_Show.j1 (k + 1) acc L (L.length : Int) (i : Int) true t.f0 t.f1 t.f2 else if t.f0 = 2 then lex_Show.j1 (k + 1) acc L (L.length : Int) (i : Int) true t.f0 t.f1 t.f2 else lex_Show.j1 (k + 1) acc L (L.length : Int) (i : Int) (t.f0 == 3) t.f0 t.f1 t.f2) = x := by
    intro x
    subst ht
    simp only [lex_Show.l0]
    rw [if_pos (show (i : Int) < (L.length : Int) by omega), if_pos (show (0 : Int) ≤ (i : Int) by omega), if_pos (show (i : Int) < (L.length : Int) by omega)]
  rw [hl]
  have yes : lex_Show.j1 (k + 1) acc L (L.length : Int) (i : Int) true t.f0 t.f1 t.f2 = lex_Show.l0 k (acc ++ [t.f1]) L (L.length : Int) ((i + 1 : Nat) : Int) := by
    simp only [lex_Show.j1]
    rw [if_pos trivial, if_pos hal, hw]
  by_cases h1 : t.f0 = 1
  · rw [if_pos h1, yes, show pcs t = some t.f1 by unfold pcs; rw [if_pos (.inl h1)]]
    rfl
  rw [if_neg h1]
  by_cases h2 : t.f0 = 2
  · rw [if_pos h2, yes, show pcs t = some t.f1 by unfold pcs; rw [if_pos (.inr (.inl h2))]]
    rfl
  rw [if_neg h2]
  by_cases h3 : t.f0 = 3
  · rw [show (t.f0 == 3) = true by rw [beq_iff_eq]; exact h3, yes, show pcs t = some t.f1 by unfold pcs; rw [if_pos (.inr (.inr h3))]]
    rfl
  rw [show (t.f0 == 3) = false by rw [beq_eq_false_iff_ne]; exact h3]
  have n123 : ¬ (t.f0 = 1 ∨ t.f0 = 2 ∨ t.f0 = 3) := by omega
  simp only [lex_Show.j1]
  rw [if_neg (by decide)]
  by_cases h4 : t.f0 = 4
  · have q1 : 1 + t.f1.size ≤ 9223372036854775807 := by omega
    have q2 : ((⟨#[34]⟩ : ByteArray) ++ t.f1).size + 1 ≤ 9223372036854775807 := by rw [ByteArray.size_append, show (⟨#[34]⟩ : ByteArray).size = 1 from rfl]; omega
    rw [if_pos h4, if_pos q1, if_pos q2, if_pos hal, hw, show pcs t = some _ by unfold pcs; rw [if_neg n123, if_pos h4]]
    rfl
  rw [if_neg h4]
  by_cases h5 : 5 ≤ t.f0
  · rw [if_pos h5]
    by_cases h10 : t.f0 ≤ 10
    · have w1' : wrap64 (t.f0 - 5) = t.f0 - 5 := by unfold wrap64; omega
      have w2' : wrap64 (t.f0 - 5 + 1) = t.f0 - 5 + 1 := by unfold wrap64; omega
      rw [if_pos h10, w1', w2', if_pos (show (0 : Int) ≤ t.f0 - 5 by omega), if_pos (show t.f0 - 5 ≤ t.f0 - 5 + 1 by omega), if_pos (show t.f0 - 5 + 1 ≤ 6 by omega), if_pos hal, hw, show pcs t = some _ by unfold pcs; rw [if_neg n123, if_neg h4, if_pos ⟨h5, h10⟩]]
      rfl
    · rw [if_neg h10, hw, show pcs t = none by unfold pcs; rw [if_neg n123, if_neg h4, if_neg (by omega)]]
      simp
  · rw [if_neg h5, hw, show pcs t = none by unfold pcs; rw [if_neg n123, if_neg h4, if_neg (by omega)]]
    simp
theorem drop_cons' {L : List S32} {i : Nat} (hi : i < L.length) : L.drop i = rd_T32 L (i : Int) :: L.drop (i + 1) := by
  rw [List.drop_eq_getElem_cons hi]
  congr 1
  unfold rd_T32
  rw [Int.toNat_natCast]
  simp [List.getD_eq_getElem?_getD, hi]
theorem show_go {L : List S32} (hL : L.length < 8796093022208) (hsz : ∀ i : Nat, i < L.length → (rd_T32 L (i : Int)).f1.size ≤ 9223372036854775800) (hJ : (J (L.filterMap pcs)).size ≤ 140737488355328) : ∀ d (i : Nat) (acc : List ByteArray), L.length - i ≤ d → i ≤ L.length → acc.length ≤ i → acc ++ (L.drop i).filterMap pcs = L.filterMap pcs →
    Ev (fun k => lex_Show.l0 k acc L (L.length : Int) (i : Int)) (J (L.filterMap pcs)) := by
  intro d
  have last : ∀ (i : Nat) (acc : List ByteArray), ¬ i < L.length → acc ++ (L.drop i).filterMap pcs = L.filterMap pcs → Ev (fun k => lex_Show.l0 k acc L (L.length : Int) (i : Int)) (J (L.filterMap pcs)) := by
    intro i acc hi he
    rw [List.drop_of_length_le (by omega)] at he
    have he' : acc = L.filterMap pcs := by simpa using he
    refine now_ (fun k => ?_)
    simp only [lex_Show.l0]
    rw [if_neg (by omega), he']
    unfold strings_Join.f
    have := List.length_filterMap_le pcs L
    rw [J_size] at hJ
    rw [if_pos ⟨by omega, hJ⟩, J_join]
    rfl
  induction d with
  | zero => intro i acc h1 h2 h3 h4; exact last i acc (by omega) h4
  | succ d ih =>
    intro i acc h1 h2 h3 h4
    by_cases hlt : i < L.length
    · have hd := drop_cons' hlt
      have h5 : (acc ++ (pcs (rd_T32 L (i : Int))).toList) ++ (L.drop (i + 1)).filterMap pcs = L.filterMap pcs := by
        rw [← h4, hd, List.filterMap_cons]
        cases pcs (rd_T32 L (i : Int)) <;> simp
      have h6 : (acc ++ (pcs (rd_T32 L (i : Int))).toList).length ≤ i + 1 := by
        rw [List.length_append]
        have : (pcs (rd_T32 L (i : Int))).toList.length ≤ 1 := by cases pcs (rd_T32 L (i : Int)) <;> simp
        omega
      have := ih (i + 1) _ (by omega) (by omega) h6 h5
      obtain ⟨K, hK⟩ := this
      refine ⟨K + 2, fun k hk => ?_⟩
      obtain ⟨k, rfl⟩ : ∃ m, k = m + 2 := ⟨k - 2, by omega⟩
      show lex_Show.l0 (k + 2) acc L (L.length : Int) (i : Int) = _
      rw [show_step hlt h3 hL rfl (hsz i hlt)]
      exact hK k (by omega)
    · exact last i acc hlt h4
theorem show_at {L : List S32} (hL : L.length < 8796093022208) (hsz : ∀ i : Nat, i < L.length → (rd_T32 L (i : Int)).f1.size ≤ 9223372036854775800) (hJ : (J (L.filterMap pcs)).size ≤ 140737488355328) : ∃ K, ∀ k, K ≤ k → lex_Show.f k L = some (J (L.filterMap pcs)) :=
  show_go hL hsz hJ _ 0 [] (Nat.le_refl _) (Nat.zero_le _) (Nat.zero_le _) rfl
end Go.Proofs.Ytmfladkimmnccaa.Pure
