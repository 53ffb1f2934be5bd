/- What package lex's Scan computes, as plain functions. No condition. -/
import Derived.RowKit
set_option linter.unusedVariables false
set_option linter.unusedSimpArgs false
namespace Go.Proofs.Ytmfladkimmnccaa.Lx

/-- The byte at a place; 0 behind the end. -/
def nw (s : ByteArray) (i : Nat) : Nat := if h : i < s.size then (s[i]).toNat else 0
def blank (c : Nat) : Bool := c == 32 || c == 9 || c == 10 || c == 13
def letter (c : Nat) : Bool := decide (97 ≤ c) && decide (c ≤ 122) || c == 95
def digit (c : Nat) : Bool := decide (48 ≤ c) && decide (c ≤ 57)
def lord (c : Nat) : Bool := letter c || digit c
def line (c : Nat) : Bool := c != 10
def quot (c : Nat) : Bool := decide (32 ≤ c) && decide (c ≤ 126) && c != 34
def mk (c : Nat) : Int := if c = 40 then 0 else if c = 41 then 1 else if c = 44 then 2 else if c = 61 then 3 else if c = 45 then 4 else if c = 59 then 5 else -1
def skpN (P : Nat → Bool) (s : ByteArray) : Nat → Nat → Nat
  | 0, i => i
  | n + 1, i => if i < s.size ∧ P (nw s i) = true then skpN P s n (i + 1) else i
/-- The first place from i on of another class, or the end. -/
def skp (P : Nat → Bool) (s : ByteArray) (i : Nat) : Nat := skpN P s (s.size - i) i
theorem skp_step {P : Nat → Bool} {s : ByteArray} {i : Nat} (h : i < s.size) (hp : P (nw s i) = true) : skp P s i = skp P s (i + 1) := by
  unfold skp
  obtain ⟨n, hn⟩ : ∃ n, s.size - i = n + 1 := ⟨s.size - i - 1, by omega⟩
  rw [hn, show s.size - (i + 1) = n by omega, skpN, if_pos ⟨h, hp⟩]
theorem skp_stop {P : Nat → Bool} {s : ByteArray} {i : Nat} (h : ¬ (i < s.size ∧ P (nw s i) = true)) : skp P s i = i := by
  unfold skp
  cases s.size - i with
  | zero => rfl
  | succ n => rw [skpN, if_neg h]
theorem skpN_ge {P : Nat → Bool} {s : ByteArray} : ∀ n i, i ≤ skpN P s n i
  | 0, i => Nat.le_refl _
  | n + 1, i => by
    rw [skpN]
    split
    · exact Nat.le_trans (Nat.le_succ i) (skpN_ge n (i + 1))
    · exact Nat.le_refl _
theorem skp_ge (P : Nat → Bool) (s : ByteArray) (i : Nat) : i ≤ skp P s i := skpN_ge _ _
theorem skpN_le {P : Nat → Bool} {s : ByteArray} : ∀ n i, i ≤ s.size → skpN P s n i ≤ s.size
  | 0, i, h => h
  | n + 1, i, h => by
    rw [skpN]
    split
    · rename_i g
      exact skpN_le n (i + 1) g.1
    · exact h
theorem skp_le {P : Nat → Bool} {s : ByteArray} {i : Nat} (h : i ≤ s.size) : skp P s i ≤ s.size := skpN_le _ _ h
theorem skp_end {P : Nat → Bool} {s : ByteArray} {i : Nat} (h : skp P s i < s.size) : P (nw s (skp P s i)) = false := by
  have key : ∀ n i, s.size - i ≤ n → skp P s i < s.size → P (nw s (skp P s i)) = false := by
    intro n
    induction n with
    | zero =>
      intro i hi hlt
      have := skp_ge P s i
      omega
    | succ n ih =>
      intro i hi hlt
      by_cases hc : i < s.size ∧ P (nw s i) = true
      · rw [skp_step hc.1 hc.2] at hlt ⊢
        exact ih (i + 1) (by omega) hlt
      · rw [skp_stop hc] at hlt ⊢
        by_cases hp : P (nw s i) = true
        · exact absurd ⟨hlt, hp⟩ hc
        · simpa using hp
  exact key _ i (Nat.le_refl _) h
theorem skp_in {P : Nat → Bool} {s : ByteArray} {i j : Nat} (h1 : i ≤ j) (h2 : j < skp P s i) : j < s.size ∧ P (nw s j) = true := by
  have key : ∀ n i, s.size - i ≤ n → i ≤ j → j < skp P s i → j < s.size ∧ P (nw s j) = true := by
    intro n
    induction n with
    | zero =>
      intro i hi h1 h2
      rw [skp_stop (by omega)] at h2
      omega
    | succ n ih =>
      intro i hi h1 h2
      by_cases hc : i < s.size ∧ P (nw s i) = true
      · by_cases he : j = i
        · subst he
          exact hc
        · rw [skp_step hc.1 hc.2] at h2
          exact ih (i + 1) (by omega) (by omega) h2
      · rw [skp_stop hc] at h2
        omega
  exact key _ i (Nat.le_refl _) h1 h2
/-- A token: kind, text, place. -/
abbrev Tk := Int × ByteArray × Int
/-- Behind the digits: the fraction. -/
def frac (s : ByteArray) (k : Nat) : Option (Nat × Nat) :=
  if nw s k = 46 then (if skp digit s (k + 1) = k + 1 then none else some (2, skp digit s (k + 1))) else some (3, k)
def sgn (s : ByteArray) (k : Nat) : Nat := if nw s (k + 1) = 43 ∨ nw s (k + 1) = 45 then k + 2 else k + 1
def expo (s : ByteArray) (kd k : Nat) : Option (Nat × Nat) :=
  if nw s k = 101 ∨ nw s k = 69 then (if skp digit s (sgn s k) = sgn s k then none else some (2, skp digit s (sgn s k))) else some (kd, k)
def numEnd (s : ByteArray) (j kd k : Nat) : Nat × Nat × Nat := if letter (nw s k) = true ∨ nw s k = 46 then (0, 0, 62) else if k - j > 64 then (0, 0, 2) else (kd, k, 0)
/-- A number: its kind, its end, its error. -/
def num (s : ByteArray) (j : Nat) : Nat × Nat × Nat :=
  match frac s (skp digit s j) with
  | none => (0, 0, 62)
  | some (kd, k) =>
    match expo s kd k with
    | none => (0, 0, 62)
    | some (kd, k) => numEnd s j kd k
theorem num_frac_none {s : ByteArray} {j : Nat} (h : frac s (skp digit s j) = none) : num s j = (0, 0, 62) := by unfold num; rw [h]
theorem num_expo_none {s : ByteArray} {j kd m : Nat} (h : frac s (skp digit s j) = some (kd, m)) (h2 : expo s kd m = none) : num s j = (0, 0, 62) := by unfold num; rw [h]; simp only; rw [h2]
theorem num_both {s : ByteArray} {j kd m kd' m' : Nat} (h : frac s (skp digit s j) = some (kd, m)) (h2 : expo s kd m = some (kd', m')) : num s j = numEnd s j kd' m' := by unfold num; rw [h]; simp only; rw [h2]
/-- From the label 'blank' on. -/
def scn : Nat → ByteArray → Nat → List Tk → Option (List Tk × Int × Int)
  | 0, _, _, _ => none
  | k + 1, s, i, l =>
    let j := skp blank s i
    if nw s j = 35 then scn k s (skp line s j) l
    else if j = s.size then some (l ++ [(0, s.extract j j, (j : Int))], 0, 0)
    else if letter (nw s j) = true then (if skp lord s j - j > 64 then some ([], 2, (j : Int)) else scn k s (skp lord s j) (l ++ [(1, s.extract j (skp lord s j), (j : Int))]))
    else if digit (nw s j) = true then (if (num s j).2.2 ≠ 0 then some ([], ((num s j).2.2 : Int), (j : Int)) else scn k s (num s j).2.1 (l ++ [(((num s j).1 : Int), s.extract j (num s j).2.1, (j : Int))]))
    else if nw s j = 34 then
      (if nw s (skp quot s (j + 1)) ≠ 34 then some ([], 61, (j : Int)) else if skp quot s (j + 1) - j - 1 > 64 then some ([], 2, (j : Int))
       else scn k s (skp quot s (j + 1) + 1) (l ++ [(4, s.extract (j + 1) (skp quot s (j + 1)), (j : Int))]))
    else if 0 ≤ mk (nw s j) then scn k s (j + 1) (l ++ [(5 + mk (nw s j), s.extract j (j + 1), (j : Int))])
    else some ([], 60, (j : Int))
def scan (s : ByteArray) : List Tk × Int × Int := if s.size > 65536 then ([], 2, 0) else (scn (s.size + 1) s 0 []).getD ([], 0, 0)
theorem nw_lt {s : ByteArray} {i : Nat} (h : nw s i ≠ 0) : i < s.size := by
  unfold nw at h
  split at h
  · assumption
  · exact absurd rfl h
theorem nw_byte (s : ByteArray) (i : Nat) : nw s i < 256 := by
  unfold nw
  split
  · exact UInt8.toNat_lt _
  · omega
theorem num_in {s : ByteArray} {j : Nat} (hj : j < s.size) (hd : digit (nw s j) = true) (he : (num s j).2.2 = 0) : j < (num s j).2.1 ∧ (num s j).2.1 ≤ s.size ∧ (num s j).2.1 - j ≤ 64 ∧ ((num s j).1 = 2 ∨ (num s j).1 = 3) := by
  have h1 : j < skp digit s j := by
    rw [skp_step hj hd]
    exact skp_ge _ _ _
  have h2 : skp digit s j ≤ s.size := skp_le (by omega)
  unfold num at he ⊢
  generalize skp digit s j = k at h1 h2 he ⊢
  have hf : ∀ kd m, frac s k = some (kd, m) → j < m ∧ m ≤ s.size ∧ (kd = 2 ∨ kd = 3) := by
    intro kd m h
    unfold frac at h
    split at h
    · rename_i hk
      have hk' : k < s.size := nw_lt (by omega)
      split at h
      · cases h
      · cases h
        have := skp_ge digit s (k + 1)
        exact ⟨by omega, skp_le (by omega), .inl rfl⟩
    · cases h
      exact ⟨h1, h2, .inr rfl⟩
  cases hk : frac s k with
  | none => rw [hk] at he; exact absurd he (by simp)
  | some x =>
    obtain ⟨kd, m⟩ := x
    rw [hk] at he
    simp only at he ⊢
    obtain ⟨g1, g2, g3⟩ := hf kd m hk
    have hx : ∀ kd' m', expo s kd m = some (kd', m') → j < m' ∧ m' ≤ s.size ∧ (kd' = 2 ∨ kd' = 3) := by
      intro kd' m' h
      unfold expo at h
      split at h
      · rename_i hk
        have hk' : m < s.size := nw_lt (by omega)
        have hs : m + 1 ≤ sgn s m ∧ sgn s m ≤ s.size := by
          unfold sgn
          split
          · rename_i hq
            have : m + 1 < s.size := nw_lt (by omega)
            omega
          · omega
        split at h
        · cases h
        · cases h
          have := skp_ge digit s (sgn s m)
          exact ⟨by omega, skp_le hs.2, .inl rfl⟩
      · cases h
        exact ⟨g1, g2, g3⟩
    cases hy : expo s kd m with
    | none => rw [hy] at he; exact absurd he (by simp)
    | some y =>
      obtain ⟨kd', m'⟩ := y
      rw [hy] at he
      simp only at he ⊢
      obtain ⟨q1, q2, q3⟩ := hx kd' m' hy
      unfold numEnd at he ⊢
      split at he
      · exact absurd he (by decide)
      · split at he
        · exact absurd he (by decide)
        · rename_i n1 n2
          rw [if_neg n1, if_neg n2]
          exact ⟨q1, q2, Nat.not_lt.mp n2, q3⟩
theorem letter_ne {c : Nat} (h : letter c = true) : c ≠ 0 := by
  rintro rfl
  exact absurd h (by decide)
theorem digit_ne {c : Nat} (h : digit c = true) : c ≠ 0 := by
  rintro rfl
  exact absurd h (by decide)
theorem mk_ne {c : Nat} (h : 0 ≤ mk c) : c ≠ 0 := by
  rintro rfl
  exact absurd h (by decide)
theorem lord_of_letter {c : Nat} (h : letter c = true) : lord c = true := by unfold lord; rw [h]; rfl
theorem quot_ne {c : Nat} (h : c = 34) : quot c = false := by subst h; rfl
theorem scn_some : ∀ k s i l, i ≤ s.size → s.size - i < k → ∃ r, scn k s i l = some r := by
  intro k
  induction k with
  | zero => intro s i l h1 h2; omega
  | succ k ih =>
    intro s i l h1 h2
    have hj := skp_ge blank s i
    have hj2 : skp blank s i ≤ s.size := skp_le h1
    rw [scn]
    generalize skp blank s i = j at hj hj2 ⊢
    split
    · rename_i h
      have hlt : j < s.size := nw_lt (by omega)
      have h3 : j < skp line s j := by
        rw [skp_step hlt (by rw [h]; rfl)]
        exact skp_ge _ _ _
      exact ih s _ l (skp_le hj2) (by omega)
    split
    · exact ⟨_, rfl⟩
    split
    · rename_i h
      have hlt : j < s.size := nw_lt (letter_ne h)
      have h3 : j < skp lord s j := by
        rw [skp_step hlt (lord_of_letter h)]
        exact skp_ge _ _ _
      split
      · exact ⟨_, rfl⟩
      · exact ih s _ _ (skp_le hj2) (by omega)
    split
    · rename_i h
      have hlt : j < s.size := nw_lt (digit_ne h)
      split
      · exact ⟨_, rfl⟩
      · rename_i he
        have := num_in hlt h (by simpa using he)
        exact ih s _ _ (by omega) (by omega)
    split
    · rename_i h
      have hlt : j < s.size := nw_lt (by omega)
      split
      · exact ⟨_, rfl⟩
      · rename_i he
        have h4 : nw s (skp quot s (j + 1)) = 34 := by simpa using he
        have h5 : skp quot s (j + 1) < s.size := nw_lt (by omega)
        have h6 := skp_ge quot s (j + 1)
        split
        · exact ⟨_, rfl⟩
        · exact ih s _ _ (by omega) (by omega)
    split
    · rename_i h
      have hlt : j < s.size := nw_lt (mk_ne h)
      exact ih s _ _ (by omega) (by omega)
    · exact ⟨_, rfl⟩
theorem scan_eq {s : ByteArray} (h : ¬ s.size > 65536) : scn (s.size + 1) s 0 [] = some (scan s) := by
  obtain ⟨r, hr⟩ := scn_some (s.size + 1) s 0 [] (by omega) (by omega)
  unfold scan
  rw [if_neg h, hr]
  rfl
end Go.Proofs.Ytmfladkimmnccaa.Lx
