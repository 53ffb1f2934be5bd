/- LexShows: what Show tells of a list of tokens is what the reference tells. Conditions: the list's length and its texts' lengths at most 1048576. -/
import Derived.Test.YtmfladkimmnccaaPLx14
import Derived.Test.YtmfladkimmnccaaPLx15
import Derived.Test.YtmfladkimmnccaaLxo
set_option linter.unusedVariables false
set_option linter.unusedSimpArgs false
namespace Go.Proofs.Ytmfladkimmnccaa.Pure
open Go.RowKit Go.Proofs.Ytmfladkimmnccaa.PL Go.Proofs.YtmfladkimmnccaaW.PrintWords Go.Proofs.YtmfladkimmnccaaW.PrintLast Go.Proofs.Ytmfladkimmnccaa.Lx

theorem J_snoc (p : ByteArray) : ∀ acc : List ByteArray, acc ≠ [] → J (acc ++ [p]) = (J acc ++ (⟨#[32]⟩ : ByteArray)) ++ p := by
  intro acc
  induction acc with
  | nil => intro h; exact absurd rfl h
  | cons q r ih =>
    intro _
    cases r with
    | nil =>
      show q ++ (B1 ++ p) = (q ++ B1) ++ p
      rw [ByteArray.append_assoc]
    | cons q2 r2 =>
      show q ++ (B1 ++ J ((q2 :: r2) ++ [p])) = ((q ++ (B1 ++ J (q2 :: r2))) ++ (⟨#[32]⟩ : ByteArray)) ++ p
      rw [ih (by simp)]
      simp only [ByteArray.append_assoc]
theorem J_bound (M : Nat) : ∀ ps : List ByteArray, (∀ p ∈ ps, p.size ≤ M) → (J ps).size ≤ (M + 1) * ps.length := by
  intro ps
  induction ps with
  | nil => intro _; exact Nat.zero_le _
  | cons p ps ih =>
    intro h
    have hp := h p List.mem_cons_self
    have := ih (fun q hq => h q (List.mem_cons_of_mem _ hq))
    cases ps with
    | nil =>
      show p.size ≤ (M + 1) * 1
      omega
    | cons q r =>
      show (p ++ (B1 ++ J (q :: r))).size ≤ _
      rw [ByteArray.size_append, ByteArray.size_append]
      have hb : B1.size = 1 := rfl
      have hm : (M + 1) * (p :: q :: r).length = (M + 1) * (q :: r).length + (M + 1) := by rw [List.length_cons, Nat.mul_succ]
      rw [hm]
      omega
theorem pcs_le {t : S32} {p : ByteArray} (hs : t.f1.size ≤ 1048576) (h : pcs t = some p) : p.size ≤ 1048578 := by
  unfold pcs at h
  split at h
  · have := Option.some.inj h
    subst this
    omega
  split at h
  · have := Option.some.inj h
    subst this
    rw [ByteArray.size_append, ByteArray.size_append, show (⟨#[34]⟩ : ByteArray).size = 1 from rfl]
    omega
  split at h
  · have := Option.some.inj h
    subst this
    rw [ByteArray.size_extract]
    have : MK.size = 6 := rfl
    omega
  · exact absurd h (by simp)
/-- One token told by the reference. -/
theorem rshow_step {L : List S32} {acc : List ByteArray} {i : Nat} {t : S32} {r : ByteArray} (hi : i < L.length) (hL : L.length < 8796093022208) (ht : rd_T32 L (i : Int) = t) (hsz : t.f1.size ≤ 1048576) (hJ : (J acc).size ≤ 1125899906842624)
    (h : Ev (fun k => latheref06_Show.l0 k L (J (acc ++ (pcs t).toList)) (acc ++ (pcs t).toList).isEmpty ((i + 1 : Nat) : Int)) r) :
    Ev (fun k => latheref06_Show.l0 k L (J acc) acc.isEmpty (i : Int)) r := by
  have hw : wrap64 ((i : Int) + 1) = ((i + 1 : Nat) : Int) := by unfold wrap64; omega
  obtain ⟨K, hK⟩ := h
  refine ⟨K + 3, fun k hk => ?_⟩
  obtain ⟨k, rfl⟩ : ∃ m, k = m + 3 := ⟨k - 3, by omega⟩
  -- what is told when a piece is added
  have add : ∀ (p : ByteArray) (k' : Nat), K ≤ k' → p.size ≤ 1048578 → pcs t = some p →
      (if acc.isEmpty = true then (if (J acc).size + p.size ≤ 9223372036854775807 then (latheref06_Show.l0 k' L ((J acc) ++ p) false (wrap64 ((i : Int) + 1))) else (none)) else (if (J acc).size + 1 ≤ 9223372036854775807 then (if ((J acc) ++ (⟨#[32]⟩ : ByteArray)).size + p.size ≤ 9223372036854775807 then (latheref06_Show.l0 k' L (((J acc) ++ (⟨#[32]⟩ : ByteArray)) ++ p) false (wrap64 ((i : Int) + 1))) else (none)) else (none))) = some r := by
    intro p k' hk' hp hpc
    have h2 : latheref06_Show.l0 k' L (J (acc ++ (pcs t).toList)) (acc ++ (pcs t).toList).isEmpty ((i + 1 : Nat) : Int) = some r := hK k' hk'
    rw [hpc] at h2
    have he : (acc ++ (some p).toList).isEmpty = false := by cases acc <;> rfl
    rw [he] at h2
    rw [hw]
    cases acc with
    | nil =>
      rw [if_pos (show ([] : List ByteArray).isEmpty = true from rfl)]
      have e0 : (J ([] : List ByteArray)) ++ p = p := by
        apply ByteArray.ext
        rw [ByteArray.data_append, show (J ([] : List ByteArray)).data = #[] from rfl]
        simp
      rw [if_pos (by omega), e0]
      exact h2
    | cons q z =>
      rw [if_neg (by simp)]
      have e1 : J ((q :: z) ++ (some p).toList) = (J (q :: z) ++ (⟨#[32]⟩ : ByteArray)) ++ p := J_snoc p (q :: z) (by simp)
      rw [e1] at h2
      rw [if_pos (by omega), if_pos (by rw [ByteArray.size_append, show (⟨#[32]⟩ : ByteArray).size = 1 from rfl]; omega)]
      exact h2
  have skip : ∀ (k' : Nat), K ≤ k' → pcs t = none → latheref06_Show.l0 k' L (J acc) acc.isEmpty (wrap64 ((i : Int) + 1)) = some r := by
    intro k' hk' hpc
    have h2 : latheref06_Show.l0 k' L (J (acc ++ (pcs t).toList)) (acc ++ (pcs t).toList).isEmpty ((i + 1 : Nat) : Int) = some r := hK k' hk'
    rw [hpc, show acc ++ (none : Option ByteArray).toList = acc from List.append_nil acc] at h2
    rw [hw]
    exact h2
  subst ht
  show latheref06_Show.l0 (k + 3) L (J acc) acc.isEmpty (i : Int) = some r
  simp only [latheref06_Show.l0]
  rw [if_pos (show (i : Int) < (L.length : Int) by omega), if_pos (show (0 : Int) ≤ (i : Int) by omega)]
  generalize hg : rd_T32 L (i : Int) = t at *
  by_cases h4 : t.f0 = 4
  · have n123 : ¬ (t.f0 = 1 ∨ t.f0 = 2 ∨ t.f0 = 3) := by omega
    have sz : (((⟨#[34]⟩ : ByteArray) ++ t.f1) ++ (⟨#[34]⟩ : ByteArray)).size ≤ 1048578 := by
      rw [ByteArray.size_append, ByteArray.size_append, show (⟨#[34]⟩ : ByteArray).size = 1 from rfl]
      omega
    have q2 : ((⟨#[34]⟩ : ByteArray) ++ t.f1).size + 1 ≤ 9223372036854775807 := by rw [ByteArray.size_append, show (⟨#[34]⟩ : ByteArray).size = 1 from rfl]; omega
    rw [if_pos h4, if_pos (show 1 + t.f1.size ≤ 9223372036854775807 by omega), if_pos q2]
    exact add _ (k + 2) (by omega) sz (by unfold pcs; rw [if_neg n123, if_pos h4])
  rw [if_neg h4]
  -- no mark
  have rest : latheref06_Show.j1 (k + 2) L (J acc) acc.isEmpty (i : Int) t.f1 false = some r ∨ (5 ≤ t.f0 ∧ t.f0 ≤ 10) := by
    by_cases hm : 5 ≤ t.f0 ∧ t.f0 ≤ 10
    · exact .inr hm
    · left
      simp only [latheref06_Show.j1]
      rw [if_neg (by decide), if_pos (show (0 : Int) ≤ (i : Int) by omega), if_pos (show (i : Int) < (L.length : Int) by omega), hg]
      by_cases h1 : t.f0 < 1
      · rw [if_pos h1]
        simp only [latheref06_Show.j2]
        rw [if_pos trivial]
        exact skip k (by omega) (by unfold pcs; rw [if_neg (by omega), if_neg h4, if_neg hm])
      · rw [if_neg h1]
        by_cases h3 : t.f0 > 3
        · rw [show decide (t.f0 > 3) = true from decide_eq_true h3]
          simp only [latheref06_Show.j2]
          rw [if_pos trivial]
          exact skip k (by omega) (by unfold pcs; rw [if_neg (by omega), if_neg h4, if_neg hm])
        · rw [show decide (t.f0 > 3) = false from decide_eq_false h3]
          simp only [latheref06_Show.j2]
          rw [if_neg (by decide)]
          exact add t.f1 k (by omega) (by omega) (by unfold pcs; rw [if_pos (by omega)])
  by_cases h5 : t.f0 ≥ 5
  · rw [if_pos h5]
    by_cases h10 : t.f0 ≤ 10
    · rw [show decide (t.f0 ≤ 10) = true from decide_eq_true h10]
      have w1' : wrap64 (t.f0 - 5) = t.f0 - 5 := by unfold wrap64; omega
      have w2' : wrap64 (t.f0 - 5 + 1) = t.f0 - 5 + 1 := by unfold wrap64; omega
      simp only [latheref06_Show.j1]
      rw [if_pos trivial, if_pos (show (0 : Int) ≤ (i : Int) by omega), if_pos (show (i : Int) < (L.length : Int) by omega), hg, w1', w2', if_pos (show (0 : Int) ≤ t.f0 - 5 by omega), if_pos (show t.f0 - 5 ≤ t.f0 - 5 + 1 by omega), if_pos (show t.f0 - 5 + 1 ≤ 6 by omega)]
      refine add (MK.extract (t.f0 - 5).toNat (t.f0 - 5 + 1).toNat) (k + 1) (by omega) ?_ (by unfold pcs; rw [if_neg (by omega), if_neg h4, if_pos ⟨h5, h10⟩])
      rw [ByteArray.size_extract]
      have : MK.size = 6 := rfl
      omega
    · rw [show decide (t.f0 ≤ 10) = false from decide_eq_false h10]
      rcases rest with h | h
      · exact h
      · exact absurd h.2 h10
  · rw [if_neg h5]
    rcases rest with h | h
    · exact h
    · exact absurd h.1 h5
theorem rshow_go {L : List S32} (hL : L.length ≤ 1048576) (hsz : ∀ i : Nat, i < L.length → (rd_T32 L (i : Int)).f1.size ≤ 1048576) : ∀ d (i : Nat) (acc : List ByteArray), L.length - i ≤ d → i ≤ L.length → acc.length ≤ i → (∀ p ∈ acc, p.size ≤ 1048578) → acc ++ (L.drop i).filterMap pcs = L.filterMap pcs →
    Ev (fun k => latheref06_Show.l0 k L (J acc) acc.isEmpty (i : Int)) (J (L.filterMap pcs)) := by
  intro d
  have last : ∀ (i : Nat) (acc : List ByteArray), ¬ i < L.length → acc ++ (L.drop i).filterMap pcs = L.filterMap pcs → Ev (fun k => latheref06_Show.l0 k L (J acc) acc.isEmpty (i : Int)) (J (L.filterMap pcs)) := by
    intro i acc hi he
    rw [List.drop_of_length_le (by omega)] at he
    have he' : acc = L.filterMap pcs := by simpa using he
    refine now_ (fun k => ?_)
    simp only [latheref06_Show.l0]
    rw [if_neg (by omega), he']
  induction d with
  | zero => intro i acc h1 h2 h3 _ h4; exact last i acc (by omega) h4
  | succ d ih =>
    intro i acc h1 h2 h3 hp h4
    by_cases hlt : i < L.length
    · have hd := drop_cons' hlt
      have hs := hsz i hlt
      have h5 : (acc ++ (pcs (rd_T32 L (i : Int))).toList) ++ (L.drop (i + 1)).filterMap pcs = L.filterMap pcs := by
        rw [← h4, hd, List.filterMap_cons]
        cases pcs (rd_T32 L (i : Int)) <;> simp
      have h6 : (acc ++ (pcs (rd_T32 L (i : Int))).toList).length ≤ i + 1 := by
        rw [List.length_append]
        have : (pcs (rd_T32 L (i : Int))).toList.length ≤ 1 := by cases pcs (rd_T32 L (i : Int)) <;> simp
        omega
      have hJ := J_bound 1048578 acc hp
      have hJ2 : (1048578 + 1) * acc.length ≤ (1048578 + 1) * 1048576 := Nat.mul_le_mul_left _ (by omega)
      refine rshow_step hlt (by omega) rfl hs (by omega) (ih (i + 1) _ (by omega) (by omega) h6 ?_ h5)
      intro p hm
      rcases List.mem_append.mp hm with hm | hm
      · exact hp p hm
      · exact pcs_le hs (Option.mem_toList.mp hm)
    · exact last i acc hlt h4
theorem LexShows (l : List S32) (hL : l.length ≤ 1048576) (hsz : ∀ i : Nat, i < l.length → (rd_T32 l (i : Int)).f1.size ≤ 1048576) : ∃ k, lathelaw06_LexShows.f k l = some true := by
  have hall : ∀ p ∈ l.filterMap pcs, p.size ≤ 1048578 := by
    intro p hp
    obtain ⟨t, ht, he⟩ := List.mem_filterMap.mp hp
    obtain ⟨i, hi, rfl⟩ := List.getElem_of_mem ht
    have := hsz i hi
    have e : rd_T32 l (i : Int) = l[i] := by
      unfold rd_T32
      rw [Int.toNat_natCast]
      simp [List.getD_eq_getElem?_getD, hi]
    rw [e] at this
    exact pcs_le this he
  have hJ := J_bound 1048578 _ hall
  have hJ2 : (1048578 + 1) * (l.filterMap pcs).length ≤ (1048578 + 1) * 1048576 := Nat.mul_le_mul_left _ (Nat.le_trans (List.length_filterMap_le pcs l) hL)
  obtain ⟨K1, s1⟩ := show_at (L := l) (by omega) (fun i hi => Nat.le_trans (hsz i hi) (by omega)) (by omega)
  obtain ⟨K2, s2⟩ : ∃ K, ∀ k, K ≤ k → latheref06_Show.f k l = some (J (l.filterMap pcs)) := rshow_go hL hsz _ 0 [] (Nat.le_refl _) (Nat.zero_le _) (Nat.zero_le _) (fun _ h => absurd h (by simp)) rfl
  obtain ⟨K3, s3⟩ := same_self_at l (by omega)
  refine ⟨K1 + K2 + K3, ?_⟩
  unfold lathelaw06_LexShows.f
  rw [if_pos (by show 0 + l.length < 4398046511104; omega)]
  simp -implicitDefEqProofs only [Option.bind_some, List.nil_append]
  rw [s1 _ (by omega)]
  simp -implicitDefEqProofs only [Option.bind_some]
  rw [s2 _ (by omega)]
  simp -implicitDefEqProofs only [Option.bind_some]
  rw [if_pos trivial, s3 _ (by omega)]
  simp -implicitDefEqProofs only [Option.bind_some]
  rw [if_pos trivial, works]
  rfl
end Go.Proofs.Ytmfladkimmnccaa.Pure
