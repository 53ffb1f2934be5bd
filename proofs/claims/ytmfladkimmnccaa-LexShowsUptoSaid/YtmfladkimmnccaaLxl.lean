/- Where the plain scan's tokens lie. No condition. -/
import Derived.Test.YtmfladkimmnccaaLxa
set_option linter.unusedVariables false
set_option linter.unusedSimpArgs false
namespace Go.Proofs.Ytmfladkimmnccaa.Lx

/-- From one place to another are blanks and comments alone; in a comment ahead, behind. -/
inductive G (s : ByteArray) : Bool → Nat → Bool → Nat → Prop
  | refl (c : Bool) (p : Nat) : G s c p c p
  | nl {c c' : Bool} {p q : Nat} (hp : p < s.size) (h : nw s p = 10) (t : G s false (p + 1) c' q) : G s c p c' q
  | cm {c' : Bool} {p q : Nat} (hp : p < s.size) (h : nw s p ≠ 10) (t : G s true (p + 1) c' q) : G s true p c' q
  | bl {c' : Bool} {p q : Nat} (hp : p < s.size) (h : nw s p = 9 ∨ nw s p = 13 ∨ nw s p = 32) (t : G s false (p + 1) c' q) : G s false p c' q
  | hash {c' : Bool} {p q : Nat} (hp : p < s.size) (h : nw s p = 35) (t : G s true (p + 1) c' q) : G s false p c' q
theorem G.trans {s : ByteArray} {c c1 c2 : Bool} {p m q : Nat} (h : G s c p c1 m) : G s c1 m c2 q → G s c p c2 q := by
  induction h with
  | refl c p => exact id
  | nl hp h _ ih => exact fun k => .nl hp h (ih k)
  | cm hp h _ ih => exact fun k => .cm hp h (ih k)
  | bl hp h _ ih => exact fun k => .bl hp h (ih k)
  | hash hp h _ ih => exact fun k => .hash hp h (ih k)
theorem G.le {s : ByteArray} {c c1 : Bool} {p m : Nat} (h : G s c p c1 m) : p ≤ m := by
  induction h with
  | refl c p => exact Nat.le_refl _
  | nl _ _ _ ih => omega
  | cm _ _ _ ih => omega
  | bl _ _ _ ih => omega
  | hash _ _ _ ih => omega
theorem G.blanks {s : ByteArray} : ∀ d p, s.size - p ≤ d → G s false p false (skp blank s p) := by
  intro d
  induction d with
  | zero => intro p h; rw [skp_stop (by omega)]; exact .refl _ _
  | succ d ih =>
    intro p h
    by_cases hc : p < s.size ∧ blank (nw s p) = true
    · rw [skp_step hc.1 hc.2]
      have hb : nw s p = 32 ∨ nw s p = 9 ∨ nw s p = 10 ∨ nw s p = 13 := by
        have := hc.2
        simp [blank] at this
        omega
      by_cases h10 : nw s p = 10
      · exact .nl hc.1 h10 (ih _ (by omega))
      · exact .bl hc.1 (by omega) (ih _ (by omega))
    · rw [skp_stop hc]
      exact .refl _ _
theorem G.lines {s : ByteArray} : ∀ d p, s.size - p ≤ d → G s true p true (skp line s p) := by
  intro d
  induction d with
  | zero => intro p h; rw [skp_stop (by omega)]; exact .refl _ _
  | succ d ih =>
    intro p h
    by_cases hc : p < s.size ∧ line (nw s p) = true
    · rw [skp_step hc.1 hc.2]
      exact .cm hc.1 (by simpa [line] using hc.2) (ih _ (by omega))
    · rw [skp_stop hc]
      exact .refl _ _
theorem G.comment {s : ByteArray} {j : Nat} (h : nw s j = 35) : G s false j true (skp line s j) := by
  have hlt : j < s.size := nw_lt (by omega)
  rw [skp_step hlt (by rw [h]; rfl)]
  exact .hash hlt h (G.lines _ _ (Nat.le_refl _))
theorem line_end {s : ByteArray} {j : Nat} (hj : j ≤ s.size) : nw s (skp line s j) = 10 ∨ skp line s j = s.size := by
  by_cases h : skp line s j < s.size
  · have := skp_end h
    simp [line] at this
    exact .inl this
  · have : skp line s j ≤ s.size := skp_le hj
    exact .inr (by omega)
/-- The tokens behind a place: where each stands, and what lies between. -/
def Lies (s : ByteArray) : Nat → List Tk → Prop
  | _, [] => False
  | fr, t :: ts =>
    (t.1 = 0 ∧ ts = [] ∧ t.2.1.size = 0 ∧ t.2.2 = (s.size : Int) ∧ ∃ c, G s false fr c s.size) ∨
    (t.1 ≠ 0 ∧ ∃ j e : Nat, t.2.2 = (j : Int) ∧ fr ≤ j ∧ j < e ∧ e ≤ s.size ∧ G s false fr false j ∧ Lies s e ts ∧
      ((t.1 = 4 ∧ j + 2 ≤ e ∧ nw s j = 34 ∧ nw s (e - 1) = 34 ∧ t.2.1 = s.extract (j + 1) (e - 1)) ∨ (t.1 ≠ 4 ∧ t.2.1 = s.extract j e)))
theorem lies_go {s : ByteArray} : ∀ n i acc r, scn n s i acc = some r → r.2.1 = 0 → i ≤ s.size → ∀ fr c, G s false fr c i → (c = true → nw s i = 10 ∨ i = s.size) → ∃ ts, r.1 = acc ++ ts ∧ Lies s fr ts := by
  intro n
  induction n with
  | zero => intro i acc r h; exact absurd h (by simp [scn])
  | succ n ih =>
    intro i acc r h h0 hi fr c hG hc
    rw [scn] at h
    have hj2 : skp blank s i ≤ s.size := skp_le hi
    have hj1 := skp_ge blank s i
    have hGj : ∃ c', G s false fr c' (skp blank s i) ∧ (c' = true → skp blank s i = s.size) := by
      cases c with
      | false => exact ⟨false, hG.trans (G.blanks _ _ (Nat.le_refl _)), fun h => absurd h (by decide)⟩
      | true =>
        by_cases he : i = s.size
        · refine ⟨true, ?_, fun _ => ?_⟩
          · rw [skp_stop (by omega)]
            exact hG
          · rw [skp_stop (by omega)]
            exact he
        · have h10 := (hc rfl).resolve_right he
          refine ⟨false, ?_, fun h => absurd h (by decide)⟩
          rw [skp_step (by omega) (by rw [h10]; rfl)]
          exact hG.trans (.nl (by omega) h10 (G.blanks _ _ (Nat.le_refl _)))
    obtain ⟨c', hGj, hc'⟩ := hGj
    generalize skp blank s i = j at h hj1 hj2 hGj hc'
    have hfr := hGj.le
    have nolast : ∀ (hlt : j < s.size), G s false fr false j := fun hlt => by
      cases c' with
      | false => exact hGj
      | true => exact absurd (hc' rfl) (by omega)
    have bad : ∀ (e : Int), e ≠ 0 → some (([] : List Tk), e, (j : Int)) = some r → ∃ ts, r.1 = acc ++ ts ∧ Lies s fr ts := by
      intro e he h
      have := Option.some.inj h
      subst this
      exact absurd h0 he
    have tok : ∀ (t : Tk) (e : Nat), scn n s e (acc ++ [t]) = some r → t.1 ≠ 0 → t.2.2 = (j : Int) → j < e → e ≤ s.size → j < s.size →
        ((t.1 = 4 ∧ j + 2 ≤ e ∧ nw s j = 34 ∧ nw s (e - 1) = 34 ∧ t.2.1 = s.extract (j + 1) (e - 1)) ∨ (t.1 ≠ 4 ∧ t.2.1 = s.extract j e)) → ∃ ts, r.1 = acc ++ ts ∧ Lies s fr ts := by
      intro t e h k1 k2 k3 k4 hlt k5
      obtain ⟨ts, h1, h2⟩ := ih e _ r h h0 k4 e false (.refl _ _) (fun h => absurd h (by decide))
      refine ⟨t :: ts, by rw [h1, List.append_assoc]; rfl, ?_⟩
      exact .inr ⟨k1, j, e, k2, hfr, k3, k4, nolast hlt, h2, k5⟩
    split at h
    · rename_i h35
      have hlt : j < s.size := nw_lt (by omega)
      exact ih _ acc r h h0 (skp_le hj2) fr true ((nolast hlt).trans (G.comment h35)) (fun _ => line_end hj2)
    split at h
    · rename_i hend
      have := Option.some.inj h
      subst this
      refine ⟨[_], rfl, .inl ⟨rfl, rfl, ?_, by simp [hend], c', by rw [← hend]; exact hGj⟩⟩
      show (s.extract j j).size = 0
      simp [ByteArray.size_extract]
    rename_i h35 hend
    have hlt : j < s.size := by omega
    split at h
    · rename_i hL
      have h3 : j < skp lord s j := by
        rw [skp_step hlt (lord_of_letter hL)]
        exact skp_ge _ _ _
      split at h
      · exact bad _ (by decide) h
      · exact tok _ _ h (show (1 : Int) ≠ 0 by decide) rfl h3 (skp_le hj2) hlt (.inr ⟨show (1 : Int) ≠ 4 by decide, rfl⟩)
    split at h
    · rename_i hD
      split at h
      · rename_i he
        exact bad _ (by omega) h
      · rename_i he
        have := num_in hlt hD (by simpa using he)
        exact tok _ _ h (show ((num s j).1 : Int) ≠ 0 by omega) rfl (by omega) (by omega) hlt (.inr ⟨show ((num s j).1 : Int) ≠ 4 by omega, rfl⟩)
    split at h
    · rename_i hQ
      split at h
      · exact bad _ (by decide) h
      · rename_i he
        have h4 : nw s (skp quot s (j + 1)) = 34 := by simpa using he
        have h5 : skp quot s (j + 1) < s.size := nw_lt (by omega)
        have h6 := skp_ge quot s (j + 1)
        split at h
        · exact bad _ (by decide) h
        · exact tok _ _ h (show (4 : Int) ≠ 0 by decide) rfl (by omega) (by omega) hlt (.inl ⟨rfl, by omega, hQ, by rw [Nat.add_sub_cancel]; exact h4, by rw [Nat.add_sub_cancel]⟩)
    split at h
    · rename_i hM
      have hm4 : 5 + mk (nw s j) ≠ 4 := by omega
      have hm0 : 5 + mk (nw s j) ≠ 0 := by omega
      exact tok _ _ h hm0 rfl (by omega) (by omega) hlt (.inr ⟨hm4, rfl⟩)
    · exact bad _ (by decide) h
theorem scn_err : ∀ n (s : ByteArray) i acc r, scn n s i acc = some r → r.2.1 ≠ 0 → r.1 = [] := by
  intro n
  induction n with
  | zero => intro s i acc r h; exact absurd h (by simp [scn])
  | succ n ih =>
    intro s i acc r h h0
    rw [scn] at h
    generalize skp blank s i = j at h
    have bad : ∀ (e : Int), some (([] : List Tk), e, (j : Int)) = some r → r.1 = [] := by
      intro e h
      have := Option.some.inj h
      subst this
      rfl
    split at h
    · exact ih _ _ _ _ h h0
    split at h
    · have := Option.some.inj h
      subst this
      exact absurd rfl h0
    split at h
    · split at h
      · exact bad _ h
      · exact ih _ _ _ _ h h0
    split at h
    · split at h
      · exact bad _ h
      · exact ih _ _ _ _ h h0
    split at h
    · split at h
      · exact bad _ h
      · split at h
        · exact bad _ h
        · exact ih _ _ _ _ h h0
    split at h
    · exact ih _ _ _ _ h h0
    · exact bad _ h
theorem scan_err {s : ByteArray} (h : (scan s).2.1 ≠ 0) : (scan s).1 = [] := by
  by_cases hs : s.size > 65536
  · unfold scan
    rw [if_pos hs]
  · exact scn_err _ s 0 [] _ (scan_eq hs) h
theorem scan_lies {s : ByteArray} (h : (scan s).2.1 = 0) : s.size ≤ 65536 ∧ Lies s 0 (scan s).1 := by
  by_cases hs : s.size > 65536
  · exfalso
    unfold scan at h
    rw [if_pos hs] at h
    exact absurd h (by decide)
  · obtain ⟨ts, h1, h2⟩ := lies_go _ 0 [] _ (scan_eq hs) h (Nat.zero_le _) 0 false (.refl _ _) (fun h => absurd h (by decide))
    rw [h1]
    exact ⟨by omega, h2⟩
theorem nw_extract (s : ByteArray) (a b i : Nat) (hb : b ≤ s.size) (hi : a + i < b) : nw (s.extract a b) i = nw s (a + i) := by
  unfold nw
  rw [dif_pos (by rw [ByteArray.size_extract]; omega), dif_pos (by omega)]
  congr 1
  simp only [ByteArray.getElem_eq_getElem_data, ByteArray.data_extract]
  rw [Array.getElem_extract]
theorem extract_one {s : ByteArray} {j c : Nat} (hj : j < s.size) (h : nw s j = c) : s.extract j (j + 1) = ⟨#[c.toUInt8]⟩ := by
  subst h
  unfold nw
  rw [dif_pos hj]
  apply ByteArray.ext
  rw [ByteArray.data_extract]
  apply Array.ext
  · have : j < s.data.size := hj
    simp
    omega
  · intro i h1 h2
    have : i = 0 := by simpa using h2
    subst this
    simp
    rfl
/-- A quoted text with its quotes. -/
theorem quoted_text {s : ByteArray} {j e : Nat} (hje : j + 2 ≤ e) (he : e ≤ s.size) (h1 : nw s j = 34) (h2 : nw s (e - 1) = 34) : ((⟨#[34]⟩ : ByteArray) ++ s.extract (j + 1) (e - 1)) ++ (⟨#[34]⟩ : ByteArray) = s.extract j e := by
  have e1 : (⟨#[34]⟩ : ByteArray) = s.extract j (j + 1) := (extract_one (by omega) h1).symm
  have e2 : (⟨#[34]⟩ : ByteArray) = s.extract (e - 1) e := by
    have := extract_one (s := s) (j := e - 1) (by omega) h2
    rw [show e - 1 + 1 = e by omega] at this
    exact this.symm
  have : (s.extract j (j + 1) ++ s.extract (j + 1) (e - 1)) ++ s.extract (e - 1) e = s.extract j e := by
    apply ByteArray.ext
    simp only [ByteArray.data_append, ByteArray.data_extract]
    rw [Array.extract_append_extract, show max (j + 1) (e - 1) = e - 1 by omega, show min j (j + 1) = j by omega, Array.extract_append_extract]
    congr 1 <;> omega
  rw [← e1, ← e2] at this
  exact this
end Go.Proofs.Ytmfladkimmnccaa.Lx
