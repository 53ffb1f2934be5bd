/- The plain scan of a text behind blanks. No condition. -/
import Derived.Test.YtmfladkimmnccaaLxa
set_option linter.unusedVariables false
set_option linter.unusedSimpArgs false
namespace Go.Proofs.Ytmfladkimmnccaa.Lx

theorem nw_shift (a s : ByteArray) (i : Nat) : nw (a ++ s) (i + a.size) = nw s i := by
  unfold nw
  by_cases h : i < s.size
  · rw [dif_pos h, dif_pos (by rw [ByteArray.size_append]; omega)]
    congr 1
    simp only [ByteArray.getElem_eq_getElem_data, ByteArray.data_append]
    rw [Array.getElem_append_right (by show a.size ≤ _; omega)]
    congr 1
    show i + a.size - a.size = i
    omega
  · rw [dif_neg h, dif_neg (by rw [ByteArray.size_append]; omega)]
theorem nw_left (a s : ByteArray) (i : Nat) (h : i < a.size) : nw (a ++ s) i = nw a i := by
  unfold nw
  rw [dif_pos h, dif_pos (by rw [ByteArray.size_append]; omega)]
  congr 1
  simp only [ByteArray.getElem_eq_getElem_data, ByteArray.data_append]
  rw [Array.getElem_append_left]
theorem size_shift (a s : ByteArray) (i : Nat) : i + a.size < (a ++ s).size ↔ i < s.size := by rw [ByteArray.size_append]; omega
theorem skp_shift (P : Nat → Bool) (a s : ByteArray) : ∀ d i, s.size - i ≤ d → skp P (a ++ s) (i + a.size) = skp P s i + a.size := by
  intro d
  induction d with
  | zero =>
    intro i hi
    rw [skp_stop (by rw [size_shift]; omega), skp_stop (by omega)]
  | succ d ih =>
    intro i hi
    by_cases h : i < s.size ∧ P (nw s i) = true
    · rw [skp_step h.1 h.2, skp_step ((size_shift a s i).mpr h.1) (by rw [nw_shift]; exact h.2), show i + a.size + 1 = i + 1 + a.size by omega]
      exact ih _ (by omega)
    · rw [skp_stop h, skp_stop (by rw [size_shift, nw_shift]; exact h)]
theorem skp_sh (P : Nat → Bool) (a s : ByteArray) (i : Nat) : skp P (a ++ s) (i + a.size) = skp P s i + a.size := skp_shift P a s _ i (Nat.le_refl _)
theorem extract_sh (a s : ByteArray) (i j : Nat) : (a ++ s).extract (i + a.size) (j + a.size) = s.extract i j := by
  apply ByteArray.ext
  rw [ByteArray.data_extract, ByteArray.data_extract, ByteArray.data_append, Array.extract_append]
  show (a.data.extract (i + a.data.size) (j + a.data.size)) ++ (s.data.extract (i + a.data.size - a.data.size) (j + a.data.size - a.data.size)) = _
  rw [Nat.add_sub_cancel, Nat.add_sub_cancel, Array.extract_eq_empty_of_le (by omega)]
  simp
theorem nw_shift1 (a s : ByteArray) (i : Nat) : nw (a ++ s) (i + a.size + 1) = nw s (i + 1) := by rw [show i + a.size + 1 = i + 1 + a.size by omega, nw_shift]
theorem skp_sh1 (P : Nat → Bool) (a s : ByteArray) (i : Nat) : skp P (a ++ s) (i + a.size + 1) = skp P s (i + 1) + a.size := by rw [show i + a.size + 1 = i + 1 + a.size by omega, skp_sh]
theorem frac_sh (a s : ByteArray) (k : Nat) : frac (a ++ s) (k + a.size) = (frac s k).map fun x => (x.1, x.2 + a.size) := by
  unfold frac
  rw [nw_shift, skp_sh1]
  by_cases h : nw s k = 46
  · rw [if_pos h, if_pos h]
    by_cases hz : skp digit s (k + 1) = k + 1
    · rw [if_pos hz, if_pos (by omega)]
      rfl
    · rw [if_neg hz, if_neg (by omega)]
      rfl
  · rw [if_neg h, if_neg h]
    rfl
theorem sgn_sh (a s : ByteArray) (k : Nat) : sgn (a ++ s) (k + a.size) = sgn s k + a.size := by
  unfold sgn
  rw [nw_shift1]
  split <;> omega
theorem expo_sh (a s : ByteArray) (kd k : Nat) : expo (a ++ s) kd (k + a.size) = (expo s kd k).map fun x => (x.1, x.2 + a.size) := by
  unfold expo
  rw [nw_shift, sgn_sh, skp_sh]
  by_cases h : nw s k = 101 ∨ nw s k = 69
  · rw [if_pos h, if_pos h]
    by_cases hz : skp digit s (sgn s k) = sgn s k
    · rw [if_pos hz, if_pos (by omega)]
      rfl
    · rw [if_neg hz, if_neg (by omega)]
      rfl
  · rw [if_neg h, if_neg h]
    rfl
theorem num_sh (a s : ByteArray) (j : Nat) : (num (a ++ s) (j + a.size)).1 = (num s j).1 ∧ (num (a ++ s) (j + a.size)).2.2 = (num s j).2.2 ∧ ((num s j).2.2 = 0 → (num (a ++ s) (j + a.size)).2.1 = (num s j).2.1 + a.size) := by
  unfold num
  rw [skp_sh, frac_sh]
  cases frac s (skp digit s j) with
  | none => exact ⟨rfl, rfl, fun h => absurd h (by simp)⟩
  | some x =>
    obtain ⟨kd, m⟩ := x
    simp only [Option.map_some]
    rw [expo_sh]
    cases expo s kd m with
    | none => exact ⟨rfl, rfl, fun h => absurd h (by simp)⟩
    | some y =>
      obtain ⟨kd', m'⟩ := y
      simp only [Option.map_some]
      unfold numEnd
      rw [nw_shift]
      by_cases h1 : letter (nw s m') = true ∨ nw s m' = 46
      · rw [if_pos h1, if_pos h1]
        exact ⟨rfl, rfl, fun h => absurd h (by decide)⟩
      · rw [if_neg h1, if_neg h1]
        by_cases h2 : m' - j > 64
        · rw [if_pos h2, if_pos (by omega)]
          exact ⟨rfl, rfl, fun h => absurd h (by decide)⟩
        · rw [if_neg h2, if_neg (by omega)]
          exact ⟨rfl, rfl, fun _ => rfl⟩
/-- A token, an answer, so many places further on. -/
def shT (B : Nat) (t : Tk) : Tk := (t.1, t.2.1, t.2.2 + (B : Int))
def shR (B : Nat) (r : List Tk × Int × Int) : List Tk × Int × Int := (r.1.map (shT B), r.2.1, if r.2.1 = 0 then r.2.2 else r.2.2 + (B : Int))
theorem scn_sh (a s : ByteArray) : ∀ n i (l : List Tk) r, scn n s i l = some r → scn n (a ++ s) (i + a.size) (l.map (shT a.size)) = some (shR a.size r) := by
  intro n
  induction n with
  | zero => intro i l r h; exact absurd h (by simp [scn])
  | succ n ih =>
    intro i l r h
    rw [scn] at h ⊢
    rw [skp_sh, nw_shift]
    generalize skp blank s i = j at h ⊢
    have one : ∀ (k : Int) (x : ByteArray), l.map (shT a.size) ++ [(k, x, ((j + a.size : Nat) : Int))] = (l ++ [(k, x, (j : Int))]).map (shT a.size) := by
      intro k x
      rw [List.map_append]
      rfl
    have bad : ∀ (e : Int), e ≠ 0 → some (([] : List Tk), e, (j : Int)) = some r → some (([] : List Tk), e, ((j + a.size : Nat) : Int)) = some (shR a.size r) := by
      intro e he h
      have := Option.some.inj h
      subst this
      unfold shR
      rw [if_neg he]
      rfl
    by_cases h35 : nw s j = 35
    · rw [if_pos h35] at h ⊢
      rw [skp_sh]
      exact ih _ _ _ h
    rw [if_neg h35] at h ⊢
    by_cases hend : j = s.size
    · rw [if_pos hend] at h
      rw [if_pos (by rw [ByteArray.size_append]; omega)]
      have := Option.some.inj h
      subst this
      rw [extract_sh, one 0 (s.extract j j)]
      rfl
    rw [if_neg hend] at h
    rw [if_neg (by rw [ByteArray.size_append]; omega)]
    by_cases hL : letter (nw s j) = true
    · rw [if_pos hL] at h ⊢
      rw [skp_sh]
      by_cases h64 : skp lord s j - j > 64
      · rw [if_pos h64] at h
        rw [if_pos (by omega)]
        exact bad 2 (by decide) h
      · rw [if_neg h64] at h
        rw [if_neg (by omega), extract_sh, one 1 (s.extract j (skp lord s j))]
        exact ih _ _ _ h
    rw [if_neg hL] at h ⊢
    by_cases hD : digit (nw s j) = true
    · rw [if_pos hD] at h ⊢
      obtain ⟨n1, n2, n3⟩ := num_sh a s j
      rw [n1, n2]
      by_cases h0 : (num s j).2.2 ≠ 0
      · rw [if_pos h0] at h ⊢
        exact bad _ (by omega) h
      · rw [if_neg h0] at h ⊢
        rw [n3 (by omega), extract_sh, one ((num s j).1 : Int) (s.extract j (num s j).2.1)]
        exact ih _ _ _ h
    rw [if_neg hD] at h ⊢
    by_cases hQ : nw s j = 34
    · rw [if_pos hQ] at h ⊢
      rw [skp_sh1, nw_shift]
      by_cases h34 : nw s (skp quot s (j + 1)) ≠ 34
      · rw [if_pos h34] at h ⊢
        exact bad 61 (by decide) h
      · rw [if_neg h34] at h ⊢
        by_cases h64 : skp quot s (j + 1) - j - 1 > 64
        · rw [if_pos h64] at h
          rw [if_pos (by omega)]
          exact bad 2 (by decide) h
        · rw [if_neg h64] at h
          rw [if_neg (by omega), show j + a.size + 1 = j + 1 + a.size by omega, extract_sh, one 4 (s.extract (j + 1) (skp quot s (j + 1))), show skp quot s (j + 1) + a.size + 1 = skp quot s (j + 1) + 1 + a.size by omega]
          exact ih _ _ _ h
    rw [if_neg hQ] at h ⊢
    by_cases hM : 0 ≤ mk (nw s j)
    · rw [if_pos hM] at h ⊢
      rw [show j + a.size + 1 = j + 1 + a.size by omega, extract_sh, one (5 + mk (nw s j)) (s.extract j (j + 1))]
      exact ih _ _ _ h
    · rw [if_neg hM] at h ⊢
      exact bad 60 (by decide) h
theorem scn_more : ∀ n s i l r, scn n s i l = some r → scn (n + 1) s i l = some r := by
  intro n
  induction n with
  | zero => intro s i l r h; exact absurd h (by simp [scn])
  | succ n ih =>
    intro s i l r h
    rw [scn] at h ⊢
    split at h
    · rw [if_pos (by assumption)]; exact ih _ _ _ _ h
    rw [if_neg (by assumption)]
    split at h
    · rw [if_pos (by assumption)]; exact h
    rw [if_neg (by assumption)]
    split at h
    · rw [if_pos (by assumption)]
      split at h
      · rw [if_pos (by assumption)]; exact h
      · rw [if_neg (by assumption)]; exact ih _ _ _ _ h
    rw [if_neg (by assumption)]
    split at h
    · rw [if_pos (by assumption)]
      split at h
      · rw [if_pos (by assumption)]; exact h
      · rw [if_neg (by assumption)]; exact ih _ _ _ _ h
    rw [if_neg (by assumption)]
    split at h
    · rw [if_pos (by assumption)]
      split at h
      · rw [if_pos (by assumption)]; exact h
      · rw [if_neg (by assumption)]
        split at h
        · rw [if_pos (by assumption)]; exact h
        · rw [if_neg (by assumption)]; exact ih _ _ _ _ h
    rw [if_neg (by assumption)]
    split at h
    · rw [if_pos (by assumption)]; exact ih _ _ _ _ h
    · rw [if_neg (by assumption)]; exact h
theorem scn_moreN {n s i l r} (h : scn n s i l = some r) (m : Nat) : scn (n + m) s i l = some r := by
  induction m with
  | zero => exact h
  | succ m ih => exact scn_more _ _ _ _ _ ih
theorem skp_all {P : Nat → Bool} {s : ByteArray} : ∀ d i j, j - i ≤ d → i ≤ j → j ≤ s.size → (∀ p, i ≤ p → p < j → P (nw s p) = true) → skp P s i = skp P s j := by
  intro d
  induction d with
  | zero => intro i j h1 h2 h3 h4; rw [show i = j by omega]
  | succ d ih =>
    intro i j h1 h2 h3 h4
    by_cases hij : i = j
    · rw [hij]
    · rw [skp_step (by omega) (h4 i (Nat.le_refl _) (by omega))]
      exact ih (i + 1) j (by omega) (by omega) h3 (fun p hp1 hp2 => h4 p (by omega) hp2)
theorem scn_from {n : Nat} {s : ByteArray} {i j : Nat} {l : List Tk} (h : skp blank s i = skp blank s j) : scn n s i l = scn n s j l := by
  cases n with
  | zero => rfl
  | succ n => rw [scn, scn, h]
/-- Blanks ahead. -/
theorem scan_ahead (a s : ByteArray) (ha : ∀ i, i < a.size → blank (nw a i) = true) (h : a.size + s.size ≤ 65536) : scan (a ++ s) = shR a.size (scan s) := by
  have h1 := scan_eq (s := s) (by omega)
  have h2 := scn_sh a s _ 0 [] _ h1
  have h3 := scan_eq (s := a ++ s) (by rw [ByteArray.size_append]; omega)
  have h4 : skp blank (a ++ s) 0 = skp blank (a ++ s) (0 + a.size) := by
    refine skp_all _ 0 _ (Nat.le_refl _) (Nat.zero_le _) (by rw [ByteArray.size_append]; omega) (fun p _ hp => ?_)
    rw [nw_left a s p (by omega)]
    exact ha p (by omega)
  rw [scn_from h4] at h3
  have h5 := scn_moreN h2 a.size
  rw [ByteArray.size_append, show a.size + s.size + 1 = s.size + 1 + a.size by omega] at h3
  exact (Option.some.inj (h5.symm.trans h3)).symm
end Go.Proofs.Ytmfladkimmnccaa.Lx
