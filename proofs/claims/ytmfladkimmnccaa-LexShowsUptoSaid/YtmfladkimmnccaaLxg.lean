/- Tokens shown, and scanned back. No condition. -/
import Derived.Test.YtmfladkimmnccaaLxb
set_option linter.unusedVariables false
set_option linter.unusedSimpArgs false
namespace Go.Proofs.Ytmfladkimmnccaa.Lx

abbrev BA : Type := ByteArray
def Q1 : ByteArray := ⟨#[34]⟩
def B1 : ByteArray := ⟨#[32]⟩
def N0 : ByteArray := ⟨#[]⟩
/-- What a token is shown as. -/
def pc (t : Tk) : ByteArray := if t.1 = 4 then (Q1 ++ t.2.1) ++ Q1 else t.2.1
/-- A token that a scan tells, by its kind and text. -/
def Good (t : Tk) : Prop :=
  (t.1 = 1 ∧ 1 ≤ t.2.1.size ∧ t.2.1.size ≤ 64 ∧ letter (nw t.2.1 0) = true ∧ ∀ i, i < t.2.1.size → lord (nw t.2.1 i) = true) ∨
  (∃ kd : Nat, t.1 = (kd : Int) ∧ (kd = 2 ∨ kd = 3) ∧ digit (nw t.2.1 0) = true ∧ 1 ≤ t.2.1.size ∧ num t.2.1 0 = (kd, t.2.1.size, 0)) ∨
  (t.1 = 4 ∧ t.2.1.size ≤ 64 ∧ ∀ i, i < t.2.1.size → quot (nw t.2.1 i) = true) ∨
  (∃ c : Nat, c < 256 ∧ 0 ≤ mk c ∧ t.1 = 5 + mk c ∧ t.2.1 = ⟨#[c.toUInt8]⟩)
theorem size_ex (s : ByteArray) (a b : Nat) (hb : b ≤ s.size) : (s.extract a b).size = b - a := by rw [ByteArray.size_extract]; omega
theorem nw_behind {s : ByteArray} {i : Nat} (h : s.size ≤ i) : nw s i = 0 := by unfold nw; rw [dif_neg (by omega)]
theorem agree_ex (s : ByteArray) (a b : Nat) (hab : a ≤ b) (hb : b ≤ s.size) : Agree s a (s.extract a b) 0 (b - a) := by
  refine ⟨fun i hi => ?_, by omega, by rw [size_ex _ _ _ hb]; omega⟩
  rw [Nat.zero_add, nw_extract s a b i hb (by omega)]
theorem good_go {s : ByteArray} : ∀ n i acc r, scn n s i acc = some r → r.2.1 = 0 → i ≤ s.size → nw s i ≠ 69 ∧ ∃ ts e, r.1 = acc ++ (ts ++ [e]) ∧ (∀ t ∈ ts, Good t) ∧ e.1 = 0 ∧ e.2.1 = N0 := by
  intro n
  induction n with
  | zero => intro i acc r h; exact absurd h (by simp [scn])
  | succ n ih =>
    intro i acc r h h0 hi
    refine ⟨?_, ?_⟩
    · intro h69
      rw [scn, skp_stop (by rw [h69]; simp [blank])] at h
      have hlt : i < s.size := nw_lt (by omega)
      rw [h69] at h
      rw [if_neg (by decide), if_neg (by omega), if_neg (by decide), if_neg (by decide), if_neg (by decide), if_neg (by decide)] at h
      have := Option.some.inj h
      subst this
      exact absurd h0 (by simp)
    rw [scn] at h
    have hj2 : skp blank s i ≤ s.size := skp_le hi
    generalize skp blank s i = j at h hj2
    have bad : ∀ (e : Int), e ≠ 0 → some (([] : List Tk), e, (j : Int)) = some r → ∃ ts e, r.1 = acc ++ (ts ++ [e]) ∧ (∀ t ∈ ts, Good t) ∧ e.1 = 0 ∧ e.2.1 = N0 := by
      intro e he h
      have := Option.some.inj h
      subst this
      exact absurd h0 he
    have tok : ∀ (t : Tk) (e : Nat), scn n s e (acc ++ [t]) = some r → e ≤ s.size → (nw s e ≠ 69 → Good t) → ∃ ts e, r.1 = acc ++ (ts ++ [e]) ∧ (∀ t ∈ ts, Good t) ∧ e.1 = 0 ∧ e.2.1 = N0 := by
      intro t e h he hg
      obtain ⟨h69, ts, e', h1, h2, h3, h4⟩ := ih e _ r h h0 he
      refine ⟨t :: ts, e', by rw [h1, List.append_assoc]; rfl, ?_, h3, h4⟩
      intro t' ht'
      rcases List.mem_cons.mp ht' with rfl | ht'
      · exact hg h69
      · exact h2 t' ht'
    split at h
    · exact (ih _ acc r h h0 (skp_le hj2)).2
    split at h
    · have := Option.some.inj h
      subst this
      refine ⟨[], _, rfl, (fun t ht => by cases ht), rfl, ?_⟩
      show s.extract j j = N0
      apply ByteArray.ext
      simp [ByteArray.data_extract, N0]
    rename_i h35 hend
    have hlt : j < s.size := by omega
    split at h
    · rename_i hL
      have h3 : j < skp lord s j := by
        rw [skp_step hlt (lord_of_letter hL)]
        exact skp_ge _ _ _
      have h4 : skp lord s j ≤ s.size := skp_le hj2
      split at h
      · exact bad _ (by decide) h
      · rename_i h64
        refine tok _ _ h h4 (fun _ => .inl ⟨rfl, ?_, ?_, ?_, ?_⟩)
        · show 1 ≤ (s.extract j (skp lord s j)).size
          rw [size_ex _ _ _ h4]; omega
        · show (s.extract j (skp lord s j)).size ≤ 64
          rw [size_ex _ _ _ h4]; omega
        · show letter (nw (s.extract j (skp lord s j)) 0) = true
          rw [nw_extract _ _ _ _ h4 (by omega), Nat.add_zero]; exact hL
        · intro i hi
          replace hi : i < (s.extract j (skp lord s j)).size := hi
          rw [size_ex _ _ _ h4] at hi
          show lord (nw (s.extract j (skp lord s j)) i) = true
          rw [nw_extract _ _ _ _ h4 (by omega)]
          exact (skp_in (i := j) (by omega) (by omega)).2
    split at h
    · rename_i hD
      split at h
      · rename_i he
        exact bad _ (by omega) h
      · rename_i he
        have hin := num_in hlt hD (by simpa using he)
        have he0 : (num s j).2.2 = 0 := by simpa using he
        refine tok _ _ h hin.2.1 (fun h69 => .inr (.inl ⟨(num s j).1, rfl, hin.2.2.2, ?_, ?_, ?_⟩))
        · show digit (nw (s.extract j (num s j).2.1) 0) = true
          rw [nw_extract _ _ _ _ hin.2.1 (by omega), Nat.add_zero]; exact hD
        · show 1 ≤ (s.extract j (num s j).2.1).size
          rw [size_ex _ _ _ hin.2.1]; omega
        · have hnum : num s j = ((num s j).1, (num s j).2.1, 0) := by rw [← he0]
          generalize (num s j).1 = kd at hnum hin ⊢
          generalize (num s j).2.1 = m at hnum hin h69 ⊢
          have hst := num_stop hlt hD hnum h69
          show num (s.extract j m) 0 = (kd, (s.extract j m).size, 0)
          have hsz := size_ex s j m hin.2.1
          have := num_agree (agree_ex s j m (by omega) hin.2.1) (by rw [show j + (m - j) = m by omega]; exact hst) (by rw [nw_behind (by omega)]; exact stop0) (by rw [show j + (m - j) = m by omega]; exact hnum)
          rw [this, hsz, Nat.zero_add]
    split at h
    · rename_i hQ
      split at h
      · exact bad _ (by decide) h
      · rename_i he
        have h4 : nw s (skp quot s (j + 1)) = 34 := by simpa using he
        have h5 : skp quot s (j + 1) < s.size := nw_lt (by omega)
        have h6 := skp_ge quot s (j + 1)
        split at h
        · exact bad _ (by decide) h
        · rename_i h64
          refine tok _ _ h (by omega) (fun _ => .inr (.inr (.inl ⟨rfl, ?_, ?_⟩)))
          · show (s.extract (j + 1) (skp quot s (j + 1))).size ≤ 64
            rw [size_ex _ _ _ (by omega)]; omega
          · intro i hi
            replace hi : i < (s.extract (j + 1) (skp quot s (j + 1))).size := hi
            rw [size_ex _ _ _ (by omega)] at hi
            show quot (nw (s.extract (j + 1) (skp quot s (j + 1))) i) = true
            rw [nw_extract _ _ _ _ (by omega) (by omega)]
            exact (skp_in (i := j + 1) (by omega) (by omega)).2
    split at h
    · rename_i hM
      exact tok _ _ h (by omega) (fun _ => .inr (.inr (.inr ⟨nw s j, nw_byte _ _, hM, rfl, extract_one hlt rfl⟩)))
    · exact bad _ (by decide) h
theorem scan_good {s : ByteArray} (h : (scan s).2.1 = 0) : ∃ ts e, (scan s).1 = ts ++ [e] ∧ (∀ t ∈ ts, Good t) ∧ e.1 = 0 ∧ e.2.1 = N0 := by
  by_cases hs : s.size > 65536
  · exfalso
    unfold scan at h
    rw [if_pos hs] at h
    exact absurd h (by decide)
  · obtain ⟨_, ts, e, h1, h2⟩ := good_go _ 0 [] _ (scan_eq hs) h (Nat.zero_le _)
    exact ⟨ts, e, h1, h2⟩
theorem extract_left (a z : ByteArray) (n : Nat) (hn : n = a.size) : (a ++ z).extract 0 n = a := by
  subst hn
  apply ByteArray.ext
  rw [ByteArray.data_extract, ByteArray.data_append, Array.extract_append]
  show a.data.extract 0 a.data.size ++ z.data.extract (0 - a.data.size) (a.data.size - a.data.size) = a.data
  rw [Nat.sub_self, Nat.zero_sub]
  simp
theorem nw_at_end (a z : ByteArray) : nw (a ++ z) a.size = nw z 0 := by
  have := nw_shift a z 0
  rwa [Nat.zero_add] at this
theorem agree_left (a z : ByteArray) : Agree a 0 (a ++ z) 0 a.size :=
  ⟨fun i hi => by rw [Nat.zero_add, nw_left _ _ _ hi], by omega, by rw [ByteArray.size_append]; omega⟩
theorem skp_left (P : Nat → Bool) (a z : ByteArray) (d i : Nat) (hd : a.size - i ≤ d) (hi : i ≤ a.size) (hall : ∀ p, i ≤ p → p < a.size → P (nw a p) = true) (hend : P (nw z 0) = false) : skp P (a ++ z) i = a.size := by
  induction d generalizing i with
  | zero =>
    obtain rfl : i = a.size := by omega
    rw [skp_stop (fun h => by rw [nw_at_end] at h; rw [hend] at h; exact absurd h.2 (by decide))]
  | succ d ih =>
    by_cases he : i = a.size
    · subst he
      rw [skp_stop (fun h => by rw [nw_at_end] at h; rw [hend] at h; exact absurd h.2 (by decide))]
    · rw [skp_step (by rw [ByteArray.size_append]; omega) (by rw [nw_left _ _ _ (by omega)]; exact hall i (Nat.le_refl _) (by omega))]
      exact ih (i + 1) (by omega) (by omega) (fun p hp1 hp2 => hall p (by omega) hp2)
theorem mk_facts {c : Nat} (hc : c < 256) (h : 0 ≤ mk c) : c.toUInt8.toNat = c ∧ c ≠ 35 ∧ letter c = false ∧ digit c = false ∧ c ≠ 34 ∧ blank c = false := by
  have : c = 40 ∨ c = 41 ∨ c = 44 ∨ c = 61 ∨ c = 45 ∨ c = 59 := by
    unfold mk at h
    split at h
    · omega
    split at h
    · omega
    split at h
    · omega
    split at h
    · omega
    split at h
    · omega
    split at h
    · omega
    · exact absurd h (by decide)
  rcases this with rfl | rfl | rfl | rfl | rfl | rfl <;> decide
theorem mk_le' (c : Nat) : mk c ≤ 5 := by
  unfold mk
  repeat' split
  all_goals decide
theorem letter_facts {c : Nat} (h : letter c = true) : c ≠ 35 ∧ blank c = false := by
  simp [letter] at h
  refine ⟨by omega, ?_⟩
  simp [blank]
  omega
theorem digit_facts {c : Nat} (h : digit c = true) : c ≠ 35 ∧ blank c = false ∧ letter c = false := by
  simp [digit] at h
  refine ⟨by omega, ?_, ?_⟩
  · simp [blank]
    omega
  · simp [letter]
    omega
/-- One token that is shown is scanned back. -/
theorem step_back {t : Tk} (hg : Good t) (z : ByteArray) (hz : nw z 0 = 0 ∨ nw z 0 = 32) (n : Nat) (acc : List Tk) : scn (n + 1) (pc t ++ z) 0 acc = scn n (pc t ++ z) (pc t).size (acc ++ [(t.1, t.2.1, 0)]) ∧ 1 ≤ (pc t).size := by
  have hzl : lord (nw z 0) = false := by rcases hz with h | h <;> rw [h] <;> decide
  have hzs : Stop (nw z 0) := by rcases hz with h | h <;> rw [h]; exact stop0; exact stop32
  rcases hg with ⟨k1, k2, k3, k4, k5⟩ | ⟨kd, k1, k2, k3, k4, k5⟩ | ⟨k1, k2, k3⟩ | ⟨c, hc, hm, k1, k2⟩
  · have hp : pc t = t.2.1 := by unfold pc; rw [if_neg (by omega)]
    rw [hp]
    refine ⟨?_, k2⟩
    have h0 : nw (t.2.1 ++ z) 0 = nw t.2.1 0 := nw_left _ _ _ (by omega)
    obtain ⟨f1, f2⟩ := letter_facts k4
    have hsk : skp lord (t.2.1 ++ z) 0 = t.2.1.size := skp_left lord _ z _ 0 (Nat.le_refl _) (Nat.zero_le _) (fun p _ hp => k5 p hp) hzl
    rw [scn, skp_stop (i := 0) (by rw [h0, f2]; simp), h0, if_neg f1, if_neg (by rw [ByteArray.size_append]; omega), if_pos k4, hsk, if_neg (by omega), extract_left _ _ _ rfl, k1]
    rfl
  · have hp : pc t = t.2.1 := by unfold pc; rw [if_neg (by omega)]
    rw [hp]
    refine ⟨?_, k4⟩
    have h0 : nw (t.2.1 ++ z) 0 = nw t.2.1 0 := nw_left _ _ _ (by omega)
    obtain ⟨f1, f2, f3⟩ := digit_facts k3
    have hn : num (t.2.1 ++ z) 0 = (kd, t.2.1.size, 0) := by
      have := num_agree (agree_left t.2.1 z) (by rw [Nat.zero_add, nw_behind (Nat.le_refl _)]; exact stop0) (by rw [Nat.zero_add, nw_at_end]; exact hzs) (by rw [Nat.zero_add]; exact k5)
      rw [Nat.zero_add] at this
      exact this
    rw [scn, skp_stop (i := 0) (by rw [h0, f2]; simp), h0, if_neg f1, if_neg (by rw [ByteArray.size_append]; omega), if_neg (by rw [f3]; decide), if_pos k3, hn, if_neg (by simp), extract_left _ _ _ rfl, k1]
    rfl
  · have hp : pc t = (Q1 ++ t.2.1) ++ Q1 := by unfold pc; rw [if_pos k1]
    have hq1 : Q1.size = 1 := rfl
    have hsz : (pc t).size = t.2.1.size + 2 := by rw [hp, ByteArray.size_append, ByteArray.size_append]; omega
    refine ⟨?_, by omega⟩
    have hpz : pc t ++ z = Q1 ++ (t.2.1 ++ (Q1 ++ z)) := by
      rw [hp]
      apply ByteArray.ext
      simp [ByteArray.data_append]
    have h0 : nw (pc t ++ z) 0 = 34 := by
      rw [hpz, nw_left _ _ _ (by omega)]
      rfl
    have hsk : skp quot (pc t ++ z) 1 = t.2.1.size + 1 := by
      have := skp_sh quot Q1 (t.2.1 ++ (Q1 ++ z)) 0
      rw [hq1, Nat.zero_add] at this
      rw [hpz, this, skp_left quot t.2.1 (Q1 ++ z) _ 0 (Nat.le_refl _) (Nat.zero_le _) (fun p _ hp => k3 p hp) (by rw [nw_left _ _ _ (by omega)]; rfl)]
    have hend : nw (pc t ++ z) (t.2.1.size + 1) = 34 := by
      have := nw_shift Q1 (t.2.1 ++ (Q1 ++ z)) t.2.1.size
      rw [hq1] at this
      rw [hpz, this, nw_at_end, nw_left _ _ _ (by omega)]
      rfl
    have hex : (pc t ++ z).extract 1 (t.2.1.size + 1) = t.2.1 := by
      have := extract_sh Q1 (t.2.1 ++ (Q1 ++ z)) 0 t.2.1.size
      rw [hq1, Nat.zero_add] at this
      rw [hpz, this, extract_left _ _ _ rfl]
    rw [scn, skp_stop (i := 0) (by rw [h0]; simp [blank]), h0, if_neg (by decide), if_neg (by rw [ByteArray.size_append]; omega), if_neg (by decide), if_neg (by decide), if_pos rfl, Nat.zero_add, hsk, if_neg (by rw [hend]; simp), if_neg (by omega), hex, hsz, k1]
    rfl
  · obtain ⟨g0, g1, g2, g3, g4, g5⟩ := mk_facts hc hm
    have hp : pc t = t.2.1 := by unfold pc; rw [if_neg (by omega)]
    have hsz : t.2.1.size = 1 := by rw [k2]; rfl
    rw [hp]
    refine ⟨?_, by omega⟩
    have h0 : nw (t.2.1 ++ z) 0 = c := by
      rw [nw_left _ _ _ (by omega), k2]
      show (c.toUInt8).toNat = c
      exact g0
    rw [scn, skp_stop (i := 0) (by rw [h0, g5]; simp), h0, if_neg g1, if_neg (by rw [ByteArray.size_append]; omega), if_neg (by rw [g2]; decide), if_neg (by rw [g3]; decide), if_neg g4, if_pos hm, Nat.zero_add, extract_left _ _ _ hsz.symm, k1, hsz]
    rfl
/-- The pieces with a blank between two. -/
def J : List ByteArray → ByteArray
  | [] => N0
  | [p] => p
  | p :: q :: r => p ++ (B1 ++ J (q :: r))
theorem scn_pre : ∀ n (s : ByteArray) i (l0 l : List Tk) r, scn n s i l = some r → r.2.1 = 0 → scn n s i (l0 ++ l) = some (l0 ++ r.1, r.2.1, r.2.2) := by
  intro n
  induction n with
  | zero => intro s i l0 l r h; exact absurd h (by simp [scn])
  | succ n ih =>
    intro s i l0 l r h h0
    rw [scn] at h ⊢
    generalize skp blank s i = j at h ⊢
    have bad : ∀ (e : Int), e ≠ 0 → some (([] : List Tk), e, (j : Int)) = some r → False := by
      intro e he h
      have := Option.some.inj h
      subst this
      exact he h0
    split at h
    · rw [if_pos (by assumption)]; exact ih _ _ _ _ _ h h0
    rw [if_neg (by assumption)]
    split at h
    · rw [if_pos (by assumption)]
      have := Option.some.inj h
      subst this
      rw [List.append_assoc]
    rw [if_neg (by assumption)]
    split at h
    · rw [if_pos (by assumption)]
      split at h
      · exact (bad _ (by decide) h).elim
      · rw [if_neg (by assumption), List.append_assoc]; exact ih _ _ _ _ _ h h0
    rw [if_neg (by assumption)]
    split at h
    · rw [if_pos (by assumption)]
      split at h
      · exact (bad _ (by omega) h).elim
      · rw [if_neg (by assumption), List.append_assoc]; exact ih _ _ _ _ _ h h0
    rw [if_neg (by assumption)]
    split at h
    · rw [if_pos (by assumption)]
      split at h
      · exact (bad _ (by decide) h).elim
      · rw [if_neg (by assumption)]
        split at h
        · exact (bad _ (by decide) h).elim
        · rw [if_neg (by assumption), List.append_assoc]; exact ih _ _ _ _ _ h h0
    rw [if_neg (by assumption)]
    split at h
    · rw [if_pos (by assumption), List.append_assoc]; exact ih _ _ _ _ _ h h0
    · exact (bad _ (by decide) h).elim
def kt (t : Tk) : Int × ByteArray := (t.1, t.2.1)
theorem kt_sh (B : Nat) (l : List Tk) : (l.map (shT B)).map kt = l.map kt := by
  rw [List.map_map]
  rfl
/-- What good tokens are shown as is scanned to tokens of the same kinds and texts. -/
theorem back : ∀ (ts : List Tk), (∀ t ∈ ts, Good t) → ∃ n r, scn n (J (ts.map pc)) 0 [] = some r ∧ r.2.1 = 0 ∧ r.1.map kt = ts.map kt ++ [((0 : Int), N0)] := by
  intro ts
  induction ts with
  | nil =>
    intro _
    refine ⟨1, _, rfl, rfl, ?_⟩
    rfl
  | cons t ts ih =>
    intro hg
    obtain ⟨n, r, h1, h2, h3⟩ := ih (fun t' ht' => hg t' (List.mem_cons_of_mem _ ht'))
    have hgt := hg t List.mem_cons_self
    cases ts with
    | nil =>
      obtain ⟨hs, hsz⟩ := step_back hgt N0 (.inl rfl) 1 []
      have hJ : J ((t :: ([] : List Tk)).map pc) = pc t ++ N0 := by
        show pc t = pc t ++ N0
        apply ByteArray.ext
        simp [ByteArray.data_append, N0]
      rw [hJ]
      refine ⟨2, ([(t.1, t.2.1, 0), (0, N0, ((pc t).size : Int))], 0, 0), ?_, ?_, ?_⟩
      · rw [hs, scn, skp_stop (by rw [ByteArray.size_append]; show ¬ ((pc t).size < (pc t).size + 0 ∧ _); omega), if_neg (by rw [nw_at_end]; decide), if_pos (by rw [ByteArray.size_append]; rfl)]
        rw [show (pc t ++ N0).extract (pc t).size (pc t).size = N0 by apply ByteArray.ext; simp [ByteArray.data_extract, N0]]
        rfl
      · rfl
      · rfl
    | cons t2 ts =>
      have hJ : J ((t :: t2 :: ts).map pc) = pc t ++ (B1 ++ J ((t2 :: ts).map pc)) := rfl
      rw [hJ]
      generalize J ((t2 :: ts).map pc) = z at h1 ⊢
      obtain ⟨hs, hsz⟩ := step_back hgt (B1 ++ z) (.inr (by rw [nw_left _ _ _ (by decide)]; rfl)) n []
      have h4 := scn_sh B1 z n 0 [] r h1
      have h5 : scn n (B1 ++ z) 0 [] = some (shR B1.size r) := by
        rw [scn_from (show skp blank (B1 ++ z) 0 = skp blank (B1 ++ z) (0 + B1.size) from ?_)]
        · exact h4
        · rw [skp_step (by rw [ByteArray.size_append]; show 0 < 1 + z.size; omega) (by rw [nw_left _ _ _ (by decide)]; rfl)]
          rfl
      have h6 := scn_sh (pc t) (B1 ++ z) n 0 [] _ h5
      have h7 := scn_pre n _ _ [(t.1, t.2.1, 0)] _ _ h6 (by show (shR B1.size r).2.1 = 0; exact h2)
      refine ⟨n + 1, ([(t.1, t.2.1, 0)] ++ (shR (pc t).size (shR B1.size r)).1, (shR (pc t).size (shR B1.size r)).2.1, (shR (pc t).size (shR B1.size r)).2.2), ?_, ?_, ?_⟩
      · rw [hs]
        rw [Nat.zero_add] at h7
        exact h7
      · exact h2
      · show (kt (t.1, t.2.1, 0)) :: ((r.1.map (shT B1.size)).map (shT (pc t).size)).map kt = kt t :: ((t2 :: ts).map kt ++ [((0 : Int), N0)])
        rw [kt_sh, kt_sh, h3]
        rfl
theorem scan_back (ts : List Tk) (hg : ∀ t ∈ ts, Good t) (hs : (J (ts.map pc)).size ≤ 65536) : (scan (J (ts.map pc))).2.1 = 0 ∧ (scan (J (ts.map pc))).1.map kt = ts.map kt ++ [((0 : Int), N0)] := by
  obtain ⟨n, r, h1, h2, h3⟩ := back ts hg
  have h4 := scan_eq (s := J (ts.map pc)) (by omega)
  have h5 := scn_moreN h1 ((J (ts.map pc)).size + 1)
  have h6 := scn_moreN h4 n
  rw [show n + ((J (ts.map pc)).size + 1) = (J (ts.map pc)).size + 1 + n by omega] at h5
  have := Option.some.inj (h5.symm.trans h6)
  rw [← this]
  exact ⟨h2, h3⟩
end Go.Proofs.Ytmfladkimmnccaa.Lx
