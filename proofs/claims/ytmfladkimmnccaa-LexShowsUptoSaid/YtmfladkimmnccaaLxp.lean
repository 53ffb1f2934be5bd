/- The reference's scan, as the plain scan: its blanks, numbers, quoted texts, tokens. Condition: a text of at most 65536 bytes. -/
import Derived.Test.YtmfladkimmnccaaPLx7
import Derived.Test.YtmfladkimmnccaaLxa
set_option linter.unusedVariables false
set_option linter.unusedSimpArgs false
namespace Go.Proofs.Ytmfladkimmnccaa.Pure
open Go.RowKit Go.Proofs.Ytmfladkimmnccaa.PL Go.Proofs.YtmfladkimmnccaaW.PrintWords Go.Proofs.YtmfladkimmnccaaW.PrintLast Go.Proofs.Ytmfladkimmnccaa.Lx

theorem bt_nw (s : ByteArray) (i : Nat) : bt s (i : Int) = (nw s i : Int) := by
  unfold bt nw
  rw [Int.toNat_natCast]
  by_cases h : i < s.size
  · rw [dif_pos h, dif_pos h]
  · rw [dif_neg h, dif_neg h]
    rfl
theorem blank_f (c : Nat) : latheref06_Blank.f (c : Int) = some (Lx.blank c) := by
  unfold latheref06_Blank.f
  by_cases h1 : c = 9
  · subst h1; rfl
  rw [if_neg (by omega)]
  by_cases h2 : c = 10
  · subst h2; rfl
  rw [if_neg (by omega)]
  by_cases h3 : c = 13
  · subst h3; rfl
  rw [if_neg (by omega)]
  congr 1
  rw [Bool.eq_iff_iff]
  simp [Lx.blank, h1, h2, h3]
  omega
theorem letter_f (c : Nat) : latheref06_Letter.f (c : Int) = some (letter c) := by
  unfold latheref06_Letter.f
  split
  · split
    · congr 1; rw [Bool.eq_iff_iff]; simp [letter]; omega
    · congr 1; rw [Bool.eq_iff_iff]; simp [letter]; omega
  · congr 1; rw [Bool.eq_iff_iff]; simp [letter]; omega
theorem digit_f (c : Nat) : latheref06_Digit.f (c : Int) = some (digit c) := by
  unfold latheref06_Digit.f
  split
  · congr 1; rw [Bool.eq_iff_iff]; simp [digit]; omega
  · congr 1; rw [Bool.eq_iff_iff]; simp [digit]; omega
theorem w1 {i : Nat} (h : i ≤ 65536) : wrap64 ((i : Int) + 1) = ((i + 1 : Nat) : Int) := by unfold wrap64; omega
/-- Blanks are gone over. -/
theorem skip_blanks {s : ByteArray} (hs : s.size ≤ 65536) {r : Int} : ∀ d i, s.size - i ≤ d → Ev (fun k => latheref06_skip.l0 k s (skp Lx.blank s i : Nat)) r → Ev (fun k => latheref06_skip.l0 k s (i : Nat)) r := by
  intro d
  induction d with
  | zero =>
    intro i hi h
    rwa [skp_stop (by omega)] at h
  | succ d ih =>
    intro i hi h
    by_cases hc : i < s.size ∧ Lx.blank (nw s i) = true
    · rw [skp_step hc.1 hc.2] at h
      have := ih (i + 1) (by omega) h
      refine Ev.step (fun k => ?_) this
      simp only [latheref06_skip.l0]
      rw [if_pos (by omega), if_pos (by omega), bt_nw, blank_f, hc.2]
      simp only [Option.bind_some, if_true]
      rw [w1 (by omega)]
    · rwa [skp_stop hc] at h
theorem skip_line {s : ByteArray} (hs : s.size ≤ 65536) {r : Int} : ∀ d i, s.size - i ≤ d → Ev (fun k => latheref06_skip.l0 k s (skp line s i : Nat)) r → Ev (fun k => latheref06_skip.l1 k s (i : Nat)) r := by
  intro d
  induction d with
  | zero =>
    intro i hi h
    rw [skp_stop (by omega)] at h
    refine Ev.step (fun k => ?_) h
    simp only [latheref06_skip.l1]
    rw [if_neg (by omega)]
  | succ d ih =>
    intro i hi h
    by_cases hlt : i < s.size
    · by_cases hl : nw s i = 10
      · rw [skp_stop (by simp [line, hl])] at h
        refine Ev.step (fun k => ?_) h
        simp only [latheref06_skip.l1]
        rw [if_pos (by omega), if_pos (by omega), bt_nw, if_pos (by omega)]
      · rw [skp_step hlt (by simp [line, hl])] at h
        have := ih (i + 1) (by omega) h
        refine Ev.step (fun k => ?_) this
        simp only [latheref06_skip.l1]
        rw [if_pos (by omega), if_pos (by omega), bt_nw, if_neg (by omega), w1 (by omega)]
    · rw [skp_stop (by omega)] at h
      refine Ev.step (fun k => ?_) h
      simp only [latheref06_skip.l1]
      rw [if_neg (by omega)]
theorem skip_hash {s : ByteArray} {r : Int} {j : Nat} (h35 : nw s j = 35) (h : Ev (fun k => latheref06_skip.l1 k s (j : Nat)) r) : Ev (fun k => latheref06_skip.l0 k s (j : Nat)) r := by
  have hlt : j < s.size := nw_lt (by omega)
  refine Ev.step (fun k => ?_) h
  simp only [latheref06_skip.l0]
  rw [if_pos (by omega), if_pos (by omega), bt_nw, blank_f, h35]
  rfl
theorem skip_stop_ {s : ByteArray} {j : Nat} (h35 : nw s j ≠ 35) (hb : ¬ (j < s.size ∧ Lx.blank (nw s j) = true)) : Ev (fun k => latheref06_skip.l0 k s (j : Nat)) (j : Int) := by
  refine Ev.step (f := fun _ => some (j : Int)) (fun k => ?_) (Ev.now _)
  simp only [latheref06_skip.l0]
  by_cases hlt : j < s.size
  · rw [if_pos (by omega), if_pos (by omega), bt_nw, blank_f, show Lx.blank (nw s j) = false by simpa using fun h => hb ⟨hlt, h⟩]
    simp only [Option.bind_some, Bool.false_eq_true, if_false]
    rw [if_neg (by omega)]
  · rw [if_neg (by omega)]
theorem digits_f {s : ByteArray} (hs : s.size ≤ 65536) : ∀ d i, s.size - i ≤ d → Ev (fun k => latheref06_digits.l0 k s (i : Nat)) (skp digit s i : Nat) := by
  intro d
  induction d with
  | zero =>
    intro i hi
    rw [skp_stop (by omega)]
    refine Ev.step (f := fun _ => some (i : Int)) (fun k => ?_) (Ev.now _)
    simp only [latheref06_digits.l0]
    rw [if_neg (by omega)]
  | succ d ih =>
    intro i hi
    by_cases hlt : i < s.size
    · by_cases hd : digit (nw s i) = true
      · rw [skp_step hlt hd]
        refine Ev.step (fun k => ?_) (ih (i + 1) (by omega))
        simp only [latheref06_digits.l0]
        rw [if_pos (by omega), if_pos (by omega), bt_nw, digit_f, hd]
        simp only [Option.bind_some, if_true]
        rw [w1 (by omega)]
      · rw [skp_stop (fun h => hd h.2)]
        refine Ev.step (f := fun _ => some (i : Int)) (fun k => ?_) (Ev.now _)
        simp only [latheref06_digits.l0]
        rw [if_pos (by omega), if_pos (by omega), bt_nw, digit_f, show digit (nw s i) = false by simpa using hd]
        rfl
    · rw [skp_stop (by omega)]
      refine Ev.step (f := fun _ => some (i : Int)) (fun k => ?_) (Ev.now _)
      simp only [latheref06_digits.l0]
      rw [if_neg (by omega)]
theorem digits_ev {s : ByteArray} (hs : s.size ≤ 65536) (i : Nat) : Ev (fun k => latheref06_digits.f k s (i : Nat)) (skp digit s i : Nat) := digits_f hs _ i (Nat.le_refl _)
def toI (x : Nat × Nat × Nat) : Int × Int × Int := ((x.1 : Int), (x.2.1 : Int), (x.2.2 : Int))
theorem now_ {α : Type} {g : Nat → Option α} {r : α} (h : ∀ k, g (k + 1) = some r) : Ev g r := Ev.step (f := fun _ => some r) h (Ev.now _)
theorem nw_end {s : ByteArray} {i : Nat} (h : ¬ i < s.size) : nw s i = 0 := by unfold nw; rw [dif_neg h]
theorem j5_ev {s : ByteArray} (hs : s.size ≤ 65536) {j kd m : Nat} (hm : m ≤ s.size) (hj : j ≤ m) (b : Bool) (hb : b = true ↔ (letter (nw s m) = true ∨ nw s m = 46)) : Ev (fun k => latheref06_number.j5 k (j : Int) (kd : Int) (m : Int) b) (toI (numEnd s j kd m)) := by
  refine now_ (fun k => ?_)
  simp only [latheref06_number.j5]
  unfold numEnd toI
  by_cases h : b = true
  · rw [if_pos h, if_pos (hb.mp h)]
    rfl
  · rw [if_neg h, if_neg (fun e => h (hb.mpr e))]
    by_cases h64 : m - j > 64
    · rw [if_pos h64, if_pos (by unfold wrap64; omega)]
      rfl
    · rw [if_neg h64, if_neg (by unfold wrap64; omega)]
      rfl
theorem j4_ev {s : ByteArray} (hs : s.size ≤ 65536) {j kd m : Nat} (hm : m ≤ s.size) (hj : j ≤ m) : Ev (fun k => latheref06_number.j4 k s (j : Int) (kd : Int) (m : Int)) (toI (numEnd s j kd m)) := by
  by_cases hlt : m < s.size
  · by_cases hL : letter (nw s m) = true
    · refine Ev.step (fun k => ?_) (j5_ev hs hm hj true (by simp [hL]))
      simp only [latheref06_number.j4]
      rw [if_pos (by omega), if_pos (by omega), bt_nw, letter_f, hL]
      rfl
    · refine Ev.step (fun k => ?_) (j5_ev hs hm hj ((nw s m : Int) == 46) (by simp [hL]; omega))
      simp only [latheref06_number.j4]
      rw [if_pos (by omega), if_pos (by omega), bt_nw, letter_f, show letter (nw s m) = false by simpa using hL]
      rfl
  · refine Ev.step (fun k => ?_) (j5_ev hs hm hj false (by rw [nw_end hlt]; simp [letter]))
    simp only [latheref06_number.j4]
    rw [if_neg (by omega)]
theorem j3_ev {s : ByteArray} (hs : s.size ≤ 65536) {j m p : Nat} (hm : m < s.size) (hj : j ≤ m) (b : Bool) (hb : p = if b = true then m + 2 else m + 1) (hp : p ≤ s.size) :
    Ev (fun k => latheref06_number.j3 k s (j : Int) 2 ((m + 1 : Nat) : Int) b) (if skp digit s p = p then (0, 0, 62) else toI (numEnd s j 2 (skp digit s p))) := by
  have hd := digits_ev hs p
  have hp1 := skp_ge digit s p
  have hp2 : skp digit s p ≤ s.size := skp_le hp
  have key : Ev (fun k => (latheref06_digits.f k s (p : Int)).bind fun t => if t = (p : Int) then some (0, 0, 62) else latheref06_number.j4 k s (j : Int) 2 t) (if skp digit s p = p then (0, 0, 62) else toI (numEnd s j 2 (skp digit s p))) := by
    refine Ev.bind hd ?_
    by_cases hz : skp digit s p = p
    · rw [if_pos hz]
      refine Ev.congr (f := fun _ => some (0, 0, 62)) (fun k => ?_) (Ev.now _)
      rw [if_pos (by omega)]
    · rw [if_neg hz]
      refine Ev.congr (fun k => ?_) (j4_ev (kd := 2) hs hp2 (by cases b <;> simp at hb <;> omega))
      rw [if_neg (by omega)]
      rfl
  refine Ev.step (fun k => ?_) key
  simp only [latheref06_number.j3]
  cases b with
  | true =>
    simp only [if_true] at hb ⊢
    subst hb
    rw [w1 (by omega)]
  | false =>
    simp only [Bool.false_eq_true, if_false] at hb ⊢
    subst hb
    rfl
theorem j1_ev {s : ByteArray} (hs : s.size ≤ 65536) {j kd m : Nat} (hm : m ≤ s.size) (hj : j ≤ m) :
    Ev (fun k => latheref06_number.j1 k s (j : Int) (kd : Int) (m : Int)) (match expo s kd m with | none => (0, 0, 62) | some (kd', m') => toI (numEnd s j kd' m')) := by
  by_cases hE : nw s m = 101 ∨ nw s m = 69
  · have hlt : m < s.size := nw_lt (by omega)
    have h3 : Ev (fun k => latheref06_number.j2 k s (j : Int) (kd : Int) (m : Int) true) (match expo s kd m with | none => (0, 0, 62) | some (kd', m') => toI (numEnd s j kd' m')) := by
      have hx : ∀ p, p = sgn s m → (match expo s kd m with | none => (0, 0, 62) | some (kd', m') => toI (numEnd s j kd' m')) = if skp digit s p = p then (0, 0, 62) else toI (numEnd s j 2 (skp digit s p)) := by
        rintro p rfl
        unfold expo
        rw [if_pos hE]
        by_cases hz : skp digit s (sgn s m) = sgn s m
        · rw [if_pos hz, if_pos hz]
        · rw [if_neg hz, if_neg hz]
      by_cases hl2 : m + 1 < s.size
      · by_cases h43 : nw s (m + 1) = 43
        · rw [hx (m + 2) (by unfold sgn; rw [if_pos (.inl h43)])]
          refine Ev.step (fun k => ?_) (j3_ev hs hlt hj true rfl (by omega))
          simp only [latheref06_number.j2, if_true]
          rw [w1 (by omega), if_pos (by omega), if_pos (by omega), bt_nw, if_pos (by omega)]
        · by_cases h45 : nw s (m + 1) = 45
          · rw [hx (m + 2) (by unfold sgn; rw [if_pos (.inr h45)])]
            refine Ev.step (fun k => ?_) (j3_ev hs hlt hj true rfl (by omega))
            simp only [latheref06_number.j2, if_true]
            rw [w1 (by omega), if_pos (by omega), if_pos (by omega), bt_nw, if_neg (by omega), show ((nw s (m + 1) : Int) == 45) = true by rw [beq_iff_eq]; omega]
          · rw [hx (m + 1) (by unfold sgn; rw [if_neg (by omega)])]
            refine Ev.step (fun k => ?_) (j3_ev hs hlt hj false rfl (by omega))
            simp only [latheref06_number.j2, if_true]
            rw [w1 (by omega), if_pos (by omega), if_pos (by omega), bt_nw, if_neg (by omega), show ((nw s (m + 1) : Int) == 45) = false by rw [beq_eq_false_iff_ne]; omega]
      · have h0 := nw_end hl2
        rw [hx (m + 1) (by unfold sgn; rw [if_neg (by omega)])]
        refine Ev.step (fun k => ?_) (j3_ev hs hlt hj false rfl (by omega))
        simp only [latheref06_number.j2, if_true]
        rw [w1 (by omega), if_neg (by omega)]
    refine Ev.step (fun k => ?_) h3
    simp only [latheref06_number.j1]
    rw [if_pos (by omega), if_pos (by omega), bt_nw]
    by_cases h101 : nw s m = 101
    · rw [if_pos (by omega)]
    · rw [if_neg (by omega), show ((nw s m : Int) == 69) = true by rw [beq_iff_eq]; omega]
  · have hx : expo s kd m = some (kd, m) := by unfold expo; rw [if_neg hE]
    rw [hx]
    have h2 : Ev (fun k => latheref06_number.j2 k s (j : Int) (kd : Int) (m : Int) false) (toI (numEnd s j kd m)) := by
      refine Ev.step (fun k => ?_) (j4_ev hs hm hj)
      simp only [latheref06_number.j2, Bool.false_eq_true, if_false]
    refine Ev.step (fun k => ?_) h2
    simp only [latheref06_number.j1]
    by_cases hlt : m < s.size
    · rw [if_pos (by omega), if_pos (by omega), bt_nw, if_neg (by omega), show ((nw s m : Int) == 69) = false by rw [beq_eq_false_iff_ne]; omega]
    · rw [if_neg (by omega)]
theorem number_ev {s : ByteArray} (hs : s.size ≤ 65536) {j : Nat} (hj : j < s.size) (hd : digit (nw s j) = true) : Ev (fun k => latheref06_number.f k s (j : Int)) (toI (num s j)) := by
  have hk := digits_ev hs j
  have hk1 := skp_ge digit s j
  have hk2 : skp digit s j ≤ s.size := skp_le (by omega)
  unfold num
  generalize skp digit s j = k at hk hk1 hk2
  have h0 : ∀ b : Bool, (b = true ↔ nw s k = 46) → Ev (fun n => latheref06_number.j0 n s (j : Int) 3 (k : Int) b) (toI (match frac s k with | none => (0, 0, 62) | some (kd, k) => match expo s kd k with | none => (0, 0, 62) | some (kd, k) => numEnd s j kd k)) := by
    intro b hb
    unfold frac
    by_cases h46 : nw s k = 46
    · have hlt : k < s.size := nw_lt (by omega)
      obtain rfl : b = true := hb.mpr h46
      rw [if_pos h46]
      have hd2 := digits_ev hs (k + 1)
      have hp1 := skp_ge digit s (k + 1)
      have hp2 : skp digit s (k + 1) ≤ s.size := skp_le (by omega)
      have key : Ev (fun n => (latheref06_digits.f n s ((k + 1 : Nat) : Int)).bind fun t => if t = ((k + 1 : Nat) : Int) then some (0, 0, 62) else latheref06_number.j1 n s (j : Int) 2 t) (toI (match (if skp digit s (k + 1) = k + 1 then none else some (2, skp digit s (k + 1)) : Option (Nat × Nat)) with | none => (0, 0, 62) | some (kd, k) => match expo s kd k with | none => (0, 0, 62) | some (kd, k) => numEnd s j kd k)) := by
        refine Ev.bind hd2 ?_
        by_cases hz : skp digit s (k + 1) = k + 1
        · rw [if_pos hz]
          refine Ev.congr (f := fun _ => some (0, 0, 62)) (fun n => ?_) (Ev.now _)
          rw [if_pos (by omega)]
        · rw [if_neg hz]
          have := j1_ev (kd := 2) hs hp2 (show j ≤ skp digit s (k + 1) by omega)
          refine Ev.congr (fun n => ?_) (show Ev _ _ from by
            have e : (toI (match expo s 2 (skp digit s (k + 1)) with | none => (0, 0, 62) | some (kd, k) => numEnd s j kd k)) = (match expo s 2 (skp digit s (k + 1)) with | none => (0, 0, 62) | some (kd', m') => toI (numEnd s j kd' m')) := by
              cases expo s 2 (skp digit s (k + 1)) <;> rfl
            rw [e]
            exact this)
          rw [if_neg (by omega)]
          rfl
      refine Ev.step (fun n => ?_) key
      simp only [latheref06_number.j0, if_true]
      rw [w1 (by omega)]
    · obtain rfl : b = false := by
        cases b
        · rfl
        · exact absurd (hb.mp rfl) h46
      rw [if_neg h46]
      have := j1_ev (kd := 3) hs hk2 hk1
      have e : (toI (match expo s 3 k with | none => (0, 0, 62) | some (kd, k) => numEnd s j kd k)) = (match expo s 3 k with | none => (0, 0, 62) | some (kd', m') => toI (numEnd s j kd' m')) := by
        cases expo s 3 k <;> rfl
      refine Ev.step (fun n => ?_) (show Ev _ _ from by rw [e]; exact this)
      simp only [latheref06_number.j0, Bool.false_eq_true, if_false]
      rfl
  show Ev (fun n => latheref06_number.f n s (j : Int)) _
  unfold latheref06_number.f
  refine Ev.bind hk ?_
  by_cases hlt : k < s.size
  · refine Ev.congr (fun n => ?_) (h0 ((nw s k : Int) == 46) (by rw [beq_iff_eq]; omega))
    rw [if_pos (by omega), if_pos (by omega), bt_nw]
  · refine Ev.congr (fun n => ?_) (h0 false (by rw [nw_end hlt]; simp))
    rw [if_neg (by omega)]
theorem quoted_ev {s : ByteArray} (hs : s.size ≤ 65536) {j : Nat} (hj : j < s.size) : ∀ d p, s.size - p ≤ d → j + 1 ≤ p → p ≤ s.size → Ev (fun k => latheref06_quoted.l0 k s (j : Int) (p : Int)) (if nw s (skp quot s p) ≠ 34 then (0, 61) else if skp quot s p - j - 1 > 64 then (0, 2) else (((skp quot s p + 1 : Nat) : Int), 0)) := by
  intro d
  induction d with
  | zero =>
    intro p hd hp1 hp2
    have hp : ¬ p < s.size := by omega
    rw [skp_stop (by omega), if_pos (by rw [nw_end hp]; decide)]
    have h1 : Ev (fun k => latheref06_quoted.j1 k s (j : Int) (p : Int) false) ((0 : Int), (61 : Int)) := now_ (fun k => by
      simp only [latheref06_quoted.j1, Bool.false_eq_true, if_false]
      rw [if_pos (by omega)])
    refine Ev.step (fun k => ?_) h1
    simp only [latheref06_quoted.l0]
    rw [if_neg (by omega)]
  | succ d ih =>
    intro p hd hp1 hp2
    by_cases hlt : p < s.size
    · by_cases hq : nw s p = 34
      · rw [skp_stop (by simp [quot, hq]), if_neg (by omega)]
        have h1 : Ev (fun k => latheref06_quoted.j1 k s (j : Int) (p : Int) false) (if p - j - 1 > 64 then ((0 : Int), (2 : Int)) else (((p + 1 : Nat) : Int), 0)) := now_ (fun k => by
          simp only [latheref06_quoted.j1, Bool.false_eq_true, if_false]
          rw [if_neg (by omega)]
          by_cases h64 : p - j - 1 > 64
          · rw [if_pos h64, if_pos (by unfold wrap64; omega)]
          · rw [if_neg h64, if_neg (by unfold wrap64; omega), w1 (by omega)])
        refine Ev.step (fun k => ?_) h1
        simp only [latheref06_quoted.l0]
        rw [if_pos (by omega), if_pos (by omega), bt_nw, show ((nw s p : Int) != 34) = false by simp; omega]
      · by_cases hqq : quot (nw s p) = true
        · rw [skp_step hlt hqq]
          have hb : 32 ≤ nw s p ∧ nw s p ≤ 126 := by
            simp [quot] at hqq
            omega
          have h1 : Ev (fun k => latheref06_quoted.j1 k s (j : Int) (p : Int) true) (if nw s (skp quot s (p + 1)) ≠ 34 then (0, 61) else if skp quot s (p + 1) - j - 1 > 64 then (0, 2) else (((skp quot s (p + 1) + 1 : Nat) : Int), 0)) := by
            refine Ev.step (fun k => ?_) (ih (p + 1) (by omega) (by omega) (by omega))
            simp only [latheref06_quoted.j1, if_true]
            rw [if_pos (by omega), if_pos (by omega), bt_nw, if_neg (by omega), if_neg (by omega), w1 (by omega)]
          refine Ev.step (fun k => ?_) h1
          simp only [latheref06_quoted.l0]
          rw [if_pos (by omega), if_pos (by omega), bt_nw, show ((nw s p : Int) != 34) = true by simp; omega]
        · rw [skp_stop (fun h => hqq h.2), if_pos hq]
          have hb : nw s p < 32 ∨ 126 < nw s p := by
            simp [quot] at hqq
            omega
          have h1 : Ev (fun k => latheref06_quoted.j1 k s (j : Int) (p : Int) true) ((0 : Int), (61 : Int)) := now_ (fun k => by
            simp only [latheref06_quoted.j1, if_true]
            rw [if_pos (by omega), if_pos (by omega), bt_nw]
            by_cases h32 : nw s p < 32
            · rw [if_pos (by omega)]
            · rw [if_neg (by omega), if_pos (by omega)])
          refine Ev.step (fun k => ?_) h1
          simp only [latheref06_quoted.l0]
          rw [if_pos (by omega), if_pos (by omega), bt_nw, show ((nw s p : Int) != 34) = true by simp; omega]
    · rw [skp_stop (fun h => hlt h.1), if_pos (by rw [nw_end hlt]; decide)]
      have h1 : Ev (fun k => latheref06_quoted.j1 k s (j : Int) (p : Int) false) ((0 : Int), (61 : Int)) := now_ (fun k => by
        simp only [latheref06_quoted.j1, Bool.false_eq_true, if_false]
        rw [if_pos (by omega)])
      refine Ev.step (fun k => ?_) h1
      simp only [latheref06_quoted.l0]
      rw [if_neg (by omega)]
abbrev MK : ByteArray := ⟨#[40, 41, 44, 61, 45, 59]⟩
abbrev E0 : ByteArray := ⟨#[]⟩
theorem mark_hit {s : ByteArray} (hs : s.size ≤ 65536) {j c i : Nat} (hj : j < s.size) (hi : i < 6) (hb : bt MK (i : Int) = (c : Int)) : Ev (fun k => latheref06_token.l0 k s (j : Int) (c : Int) (i : Int)) (5 + (i : Int), s.extract j (j + 1), (j : Int), ((j + 1 : Nat) : Int), 0) := now_ (fun k => by
  simp only [latheref06_token.l0]
  rw [if_pos (by omega), if_pos (by omega), if_pos hb, w1 (by omega), if_pos (by omega), if_pos (by omega), if_pos (by omega), show wrap64 (5 + (i : Int)) = 5 + (i : Int) by unfold wrap64; omega]
  rfl)
theorem mark_miss {s : ByteArray} {j c i : Nat} {r : Int × ByteArray × Int × Int × Int} (hi : i < 6) (hb : bt MK (i : Int) ≠ (c : Int)) (h : Ev (fun k => latheref06_token.l0 k s (j : Int) (c : Int) ((i + 1 : Nat) : Int)) r) : Ev (fun k => latheref06_token.l0 k s (j : Int) (c : Int) (i : Int)) r := by
  refine Ev.step (fun k => ?_) h
  simp only [latheref06_token.l0]
  rw [if_pos (by omega), if_pos (by omega), if_neg hb, w1 (by omega)]
theorem bt0 : bt MK ((0 : Nat) : Int) = 40 := by decide +kernel
theorem bt1 : bt MK ((1 : Nat) : Int) = 41 := by decide +kernel
theorem bt2 : bt MK ((2 : Nat) : Int) = 44 := by decide +kernel
theorem bt3 : bt MK ((3 : Nat) : Int) = 61 := by decide +kernel
theorem bt4 : bt MK ((4 : Nat) : Int) = 45 := by decide +kernel
theorem bt5 : bt MK ((5 : Nat) : Int) = 59 := by decide +kernel
theorem marks_hit {s : ByteArray} (hs : s.size ≤ 65536) {j c : Nat} (hj : j < s.size) (hm : 0 ≤ mk c) : Ev (fun k => latheref06_token.l0 k s (j : Int) (c : Int) ((0 : Nat) : Int)) (5 + mk c, s.extract j (j + 1), (j : Int), ((j + 1 : Nat) : Int), 0) := by
  unfold mk at hm ⊢
  split at hm
  · subst c; exact mark_hit hs hj (by decide) bt0
  · rename_i h0
    rw [if_neg h0]
    refine mark_miss (by decide) (by rw [bt0]; omega) ?_
    split at hm
    · subst c; exact mark_hit hs hj (by decide) bt1
    · rename_i h1
      rw [if_neg h1]
      refine mark_miss (by decide) (by rw [bt1]; omega) ?_
      split at hm
      · subst c; exact mark_hit hs hj (by decide) bt2
      · rename_i h2
        rw [if_neg h2]
        refine mark_miss (by decide) (by rw [bt2]; omega) ?_
        split at hm
        · subst c; exact mark_hit hs hj (by decide) bt3
        · rename_i h3
          rw [if_neg h3]
          refine mark_miss (by decide) (by rw [bt3]; omega) ?_
          split at hm
          · subst c; exact mark_hit hs hj (by decide) bt4
          · rename_i h4
            rw [if_neg h4]
            refine mark_miss (by decide) (by rw [bt4]; omega) ?_
            split at hm
            · subst c; exact mark_hit hs hj (by decide) bt5
            · exact absurd hm (by decide)
theorem marks_miss {s : ByteArray} {j c : Nat} {r : Int × ByteArray × Int × Int × Int} (hm : ¬ 0 ≤ mk c) (h : Ev (fun k => latheref06_token.l0 k s (j : Int) (c : Int) ((6 : Nat) : Int)) r) : Ev (fun k => latheref06_token.l0 k s (j : Int) (c : Int) ((0 : Nat) : Int)) r := by
  have hc : c ≠ 40 ∧ c ≠ 41 ∧ c ≠ 44 ∧ c ≠ 61 ∧ c ≠ 45 ∧ c ≠ 59 := by
    refine ⟨?_, ?_, ?_, ?_, ?_, ?_⟩ <;> (rintro rfl; exact hm (by decide))
  refine mark_miss (by decide) (by rw [bt0]; omega) (mark_miss (by decide) (by rw [bt1]; omega) (mark_miss (by decide) (by rw [bt2]; omega) (mark_miss (by decide) (by rw [bt3]; omega) (mark_miss (by decide) (by rw [bt4]; omega) (mark_miss (by decide) (by rw [bt5]; omega) h)))))
theorem letter_mk {c : Nat} (h : letter c = true) : ¬ 0 ≤ mk c := by
  intro hm
  simp [letter] at h
  unfold mk at hm
  repeat' split at hm
  all_goals omega
theorem digit_mk {c : Nat} (h : digit c = true) : ¬ 0 ≤ mk c := by
  intro hm
  simp [digit] at h
  unfold mk at hm
  repeat' split at hm
  all_goals omega
def nameR (s : ByteArray) (j e : Nat) : Int × ByteArray × Int × Int × Int := if e - j > 64 then (0, E0, 0, 0, 2) else (1, s.extract j e, (j : Int), (e : Int), 0)
theorem name_end {s : ByteArray} (hs : s.size ≤ 65536) {j e : Nat} (hje : j ≤ e) (he : e ≤ s.size) : (if (wrap64 ((e : Int) - (j : Int))) > 64 then (some ((0 : Int), E0, (0 : Int), (0 : Int), (2 : Int))) else (if 0 ≤ (j : Int) then (if (j : Int) ≤ (e : Int) then (if (e : Int) ≤ (s.size : Int) then (some (1, s.extract (j : Int).toNat (e : Int).toNat, (j : Int), (e : Int), 0)) else none) else none) else none)) = some (nameR s j e) := by
  unfold nameR
  by_cases h : e - j > 64
  · rw [if_pos h, if_pos (by unfold wrap64; omega)]
  · rw [if_neg h, if_neg (by unfold wrap64; omega), if_pos (by omega), if_pos (by omega), if_pos (by omega)]
    rfl
theorem name_ev {s : ByteArray} (hs : s.size ≤ 65536) {j : Nat} : ∀ d p, s.size - p ≤ d → j ≤ p → p ≤ s.size → Ev (fun k => latheref06_token.l1 k s (j : Int) (p : Int)) (nameR s j (skp lord s p)) := by
  intro d
  induction d with
  | zero =>
    intro p hd hp1 hp2
    rw [skp_stop (by omega)]
    refine now_ (fun k => ?_)
    simp only [latheref06_token.l1]
    rw [if_neg (by omega)]
    exact name_end hs hp1 hp2
  | succ d ih =>
    intro p hd hp1 hp2
    by_cases hlt : p < s.size
    · by_cases hl : lord (nw s p) = true
      · rw [skp_step hlt hl]
        refine Ev.step (fun k => ?_) (ih (p + 1) (by omega) (by omega) (by omega))
        simp only [latheref06_token.l1]
        rw [if_pos (by omega), if_pos (by omega), bt_nw, letter_f]
        by_cases hL : letter (nw s p) = true
        · rw [hL]
          simp only [Option.bind_some, if_true]
          rw [w1 (by omega)]
        · rw [show letter (nw s p) = false by simpa using hL]
          simp only [Option.bind_some, Bool.false_eq_true, if_false]
          rw [digit_f, show digit (nw s p) = true by
            unfold lord at hl
            rw [show letter (nw s p) = false by simpa using hL] at hl
            exact hl]
          simp only [Option.bind_some, if_true]
          rw [w1 (by omega)]
      · rw [skp_stop (fun h => hl h.2)]
        refine now_ (fun k => ?_)
        have h2 : letter (nw s p) = false ∧ digit (nw s p) = false := by
          unfold lord at hl
          simpa using hl
        simp only [latheref06_token.l1]
        rw [if_pos (by omega), if_pos (by omega), bt_nw, letter_f, h2.1]
        simp only [Option.bind_some, Bool.false_eq_true, if_false]
        rw [digit_f, h2.2]
        simp only [Option.bind_some, Bool.false_eq_true, if_false]
        exact name_end hs hp1 hp2
    · rw [skp_stop (fun h => hlt h.1)]
      refine now_ (fun k => ?_)
      simp only [latheref06_token.l1]
      rw [if_neg (by omega)]
      exact name_end hs hp1 hp2
/-- The token that begins at j, as the reference tells it. -/
def tokR (s : ByteArray) (j : Nat) : Int × ByteArray × Int × Int × Int :=
  if letter (nw s j) = true then nameR s j (skp lord s j)
  else if digit (nw s j) = true then (if (num s j).2.2 ≠ 0 then (0, E0, 0, 0, ((num s j).2.2 : Int)) else (((num s j).1 : Int), s.extract j (num s j).2.1, (j : Int), ((num s j).2.1 : Int), 0))
  else if nw s j = 34 then
    (if nw s (skp quot s (j + 1)) ≠ 34 then (0, E0, 0, 0, 61) else if skp quot s (j + 1) - j - 1 > 64 then (0, E0, 0, 0, 2) else (4, s.extract (j + 1) (skp quot s (j + 1)), (j : Int), ((skp quot s (j + 1) + 1 : Nat) : Int), 0))
  else if 0 ≤ mk (nw s j) then (5 + mk (nw s j), s.extract j (j + 1), (j : Int), ((j + 1 : Nat) : Int), 0)
  else (0, E0, 0, 0, 60)
theorem token_ev {s : ByteArray} (hs : s.size ≤ 65536) {j : Nat} (hj : j < s.size) : Ev (fun k => latheref06_token.f k s (j : Int)) (tokR s j) := by
  have h0 : Ev (fun k => latheref06_token.l0 k s (j : Int) (nw s j : Int) ((0 : Nat) : Int)) (tokR s j) := by
    unfold tokR
    by_cases hL : letter (nw s j) = true
    · rw [if_pos hL]
      refine marks_miss (letter_mk hL) (Ev.step (fun k => ?_) (name_ev hs _ j (Nat.le_refl _) (Nat.le_refl _) (by omega)))
      simp only [latheref06_token.l0]
      rw [if_neg (by omega), letter_f, hL]
      simp only [Option.bind_some, if_true]
    rw [if_neg hL]
    have hL' : letter (nw s j) = false := by simpa using hL
    by_cases hD : digit (nw s j) = true
    · rw [if_pos hD]
      have hn := number_ev hs hj hD
      have hin := @num_in s j hj hD
      generalize num s j = q at hn hin
      obtain ⟨q1, q2, q3⟩ := q
      simp only at hin ⊢
      refine marks_miss (digit_mk hD) (Ev.step (f := fun k => (latheref06_number.f k s (j : Int)).bind fun bt114 => (if bt114.2.2 = 0 then (if 0 ≤ (j : Int) then (if (j : Int) ≤ bt114.2.1 then (if bt114.2.1 ≤ (s.size : Int) then (some (bt114.1, s.extract (j : Int).toNat (bt114.2.1 : Int).toNat, (j : Int), bt114.2.1, 0)) else (none)) else (none)) else (none)) else (some (0, E0, 0, 0, bt114.2.2)))) (fun k => ?_) (Ev.bind hn ?_))
      · simp only [latheref06_token.l0]
        rw [if_neg (by omega), letter_f, hL']
        simp only [Option.bind_some, Bool.false_eq_true, if_false]
        rw [digit_f, hD]
        simp only [Option.bind_some, if_true]
      · refine Ev.congr (f := fun _ => some _) (fun k => ?_) (Ev.now _)
        unfold toI
        by_cases h3 : q3 ≠ 0
        · rw [if_pos h3]
          simp only
          rw [if_neg (by omega)]
        · have h3' : q3 = 0 := by omega
          have := hin h3'
          rw [if_neg h3]
          simp only
          rw [if_pos (by omega), if_pos (by omega), if_pos (by omega), if_pos (by omega)]
          rfl
    rw [if_neg hD]
    have hD' : digit (nw s j) = false := by simpa using hD
    by_cases hQ : nw s j = 34
    · rw [if_pos hQ]
      have hq := quoted_ev hs hj _ (j + 1) (Nat.le_refl _) (Nat.le_refl _) (by omega)
      have he := skp_ge quot s (j + 1)
      have he2 : skp quot s (j + 1) ≤ s.size := skp_le (by omega)
      have he3 := @nw_lt s (skp quot s (j + 1))
      generalize skp quot s (j + 1) = e at hq he he2 he3
      refine marks_miss (by rw [hQ]; decide) (Ev.step (f := fun k => (latheref06_quoted.f k s (j : Int)).bind fun bt117 => (if bt117.2 = 0 then (if 0 ≤ (wrap64 ((j : Int) + 1)) then (if (wrap64 ((j : Int) + 1)) ≤ (wrap64 (bt117.1 - 1)) then (if (wrap64 (bt117.1 - 1)) ≤ (s.size : Int) then (some (4, s.extract ((wrap64 ((j : Int) + 1)) : Int).toNat ((wrap64 (bt117.1 - 1)) : Int).toNat, (j : Int), bt117.1, 0)) else (none)) else (none)) else (none)) else (some (0, E0, 0, 0, bt117.2)))) (fun k => ?_) ?_)
      · simp only [latheref06_token.l0]
        rw [if_neg (by omega), letter_f, hL']
        simp only [Option.bind_some, Bool.false_eq_true, if_false]
        rw [digit_f, hD']
        simp only [Option.bind_some, Bool.false_eq_true, if_false]
        rw [if_pos (by omega)]
      · have hf : Ev (fun k => latheref06_quoted.f k s (j : Int)) _ := Ev.congr (fun k => by unfold latheref06_quoted.f; rw [w1 (by omega)]) hq
        refine Ev.bind hf ?_
        refine Ev.congr (f := fun _ => some _) (fun k => ?_) (Ev.now _)
        by_cases h34 : nw s e ≠ 34
        · rw [if_pos h34, if_pos h34]
          rfl
        · rw [if_neg h34, if_neg h34]
          by_cases h64 : e - j - 1 > 64
          · rw [if_pos h64, if_pos h64]
            rfl
          · rw [if_neg h64, if_neg h64]
            have he4 : e < s.size := he3 (by omega)
            simp only
            rw [w1 (by omega), show wrap64 (((e + 1 : Nat) : Int) - 1) = (e : Int) by unfold wrap64; omega, if_pos trivial, if_pos (by omega), if_pos (by omega), if_pos (by omega)]
            rfl
    rw [if_neg hQ]
    by_cases hM : 0 ≤ mk (nw s j)
    · rw [if_pos hM]
      exact marks_hit hs hj hM
    · rw [if_neg hM]
      refine marks_miss hM (now_ (fun k => ?_))
      simp only [latheref06_token.l0]
      rw [if_neg (by omega), letter_f, hL']
      simp only [Option.bind_some, Bool.false_eq_true, if_false]
      rw [digit_f, hD']
      simp only [Option.bind_some, Bool.false_eq_true, if_false]
      rw [if_neg (by omega)]
  refine Ev.congr (fun k => ?_) h0
  unfold latheref06_token.f
  rw [if_pos (by omega), if_pos (by omega), bt_nw]
  rfl
def toS (t : Tk) : S32 := ⟨t.1, t.2.1, t.2.2⟩
theorem extract_nil (s : ByteArray) (j : Nat) : s.extract j j = E0 := by
  apply ByteArray.ext
  simp [ByteArray.data_extract]
theorem skip_end (s : ByteArray) (i : Nat) : ¬ (skp Lx.blank s i < s.size ∧ Lx.blank (nw s (skp Lx.blank s i)) = true) := fun h => by
  rw [skp_end h.1] at h
  exact absurd h.2 (by decide)
theorem scan_go {s : ByteArray} (hs : s.size ≤ 65536) : ∀ n i (l : List Tk) (r : List Tk × Int × Int), scn n s i l = some r → i ≤ s.size → l.length ≤ i →
    ∃ t : Int, Ev (fun k => latheref06_skip.f k s (i : Int)) t ∧ Ev (fun k => latheref06_Scan.l0 k s (l.map toS) t) (r.1.map toS, r.2.1, r.2.2) := by
  intro n
  induction n with
  | zero => intro i l r h; exact absurd h (by simp [scn])
  | succ n ih =>
    intro i l r h hi hl
    rw [scn] at h
    have hj := skp_ge Lx.blank s i
    have hj2 : skp Lx.blank s i ≤ s.size := skp_le hi
    have hstop := skip_end s i
    have hb := fun {r : Int} => @skip_blanks s hs r _ i (Nat.le_refl _)
    generalize skp Lx.blank s i = j at h hj hj2 hstop hb
    by_cases h35 : nw s j = 35
    · rw [if_pos h35] at h
      have hlt : j < s.size := nw_lt (by omega)
      have h3 : j < skp line s j := by
        rw [skp_step hlt (by rw [h35]; rfl)]
        exact skp_ge _ _ _
      obtain ⟨t, h1, h2⟩ := ih _ l r h (skp_le hj2) (by omega)
      exact ⟨t, hb (skip_hash h35 (skip_line hs _ j (Nat.le_refl _) h1)), h2⟩
    rw [if_neg h35] at h
    refine ⟨(j : Int), hb (skip_stop_ h35 hstop), ?_⟩
    have hll : (l.map toS).length < 4398046511104 := by rw [List.length_map]; omega
    by_cases hend : j = s.size
    · rw [if_pos hend] at h
      have h := Option.some.inj h
      subst h
      refine now_ (fun k => ?_)
      simp only [latheref06_Scan.l0]
      rw [if_neg (by omega), if_pos hll, hend, List.map_append, extract_nil]
      rfl
    rw [if_neg hend] at h
    have hlt : j < s.size := by omega
    have ht := token_ev hs hlt
    have key : ∀ (e : Nat) (tk : Tk), tokR s j = (tk.1, tk.2.1, tk.2.2, (e : Int), 0) → j < e → e ≤ s.size → scn n s e (l ++ [tk]) = some r → Ev (fun k => latheref06_Scan.l0 k s (l.map toS) (j : Int)) (r.1.map toS, r.2.1, r.2.2) := by
      intro e tk he he1 he2 hsc
      rw [he] at ht
      obtain ⟨t, h1, h2⟩ := ih e _ r hsc he2 (by simp; omega)
      rw [List.map_append] at h2
      refine Ev.step (fun k => ?_) (Ev.bind ht (f := fun k bt => if bt.2.2.2.2 = 0 then (if (l.map toS).length < 4398046511104 then (latheref06_skip.f k s bt.2.2.2.1).bind fun t => latheref06_Scan.l0 k s (l.map toS ++ [(⟨bt.1, bt.2.1, bt.2.2.1⟩ : S32)]) t else none) else some ([], bt.2.2.2.2, (j : Int))) ?_)
      · simp only [latheref06_Scan.l0]
        rw [if_pos (by omega)]
      · refine Ev.congr (fun k => ?_) (Ev.bind h1 h2)
        rw [if_pos rfl, if_pos hll]
        rfl
    have bad : ∀ (er : Int), tokR s j = (0, E0, 0, 0, er) → er ≠ 0 → r = ([], er, (j : Int)) → Ev (fun k => latheref06_Scan.l0 k s (l.map toS) (j : Int)) (r.1.map toS, r.2.1, r.2.2) := by
      intro er he her hr
      subst hr
      rw [he] at ht
      refine Ev.step (fun k => ?_) (Ev.bind ht (f := fun k bt => if bt.2.2.2.2 = 0 then (if (l.map toS).length < 4398046511104 then (latheref06_skip.f k s bt.2.2.2.1).bind fun t => latheref06_Scan.l0 k s (l.map toS ++ [(⟨bt.1, bt.2.1, bt.2.2.1⟩ : S32)]) t else none) else some ([], bt.2.2.2.2, (j : Int))) ?_)
      · simp only [latheref06_Scan.l0]
        rw [if_pos (by omega)]
      · refine Ev.congr (fun k => ?_) (Ev.now _)
        rw [if_neg her]
        rfl
    unfold tokR at key bad
    by_cases hL : letter (nw s j) = true
    · rw [if_pos hL] at h key bad
      have h3 : j < skp lord s j := by
        rw [skp_step hlt (lord_of_letter hL)]
        exact skp_ge _ _ _
      have h4 : skp lord s j ≤ s.size := skp_le hj2
      unfold nameR at key bad
      by_cases h64 : skp lord s j - j > 64
      · rw [if_pos h64] at h key bad
        exact bad 2 rfl (by decide) (Option.some.inj h).symm
      · rw [if_neg h64] at h key bad
        exact key _ (1, _, (j : Int)) rfl h3 h4 h
    rw [if_neg hL] at h key bad
    by_cases hD : digit (nw s j) = true
    · rw [if_pos hD] at h key bad
      have hin := num_in hlt hD
      by_cases h0 : (num s j).2.2 ≠ 0
      · rw [if_pos h0] at h key bad
        exact bad _ rfl (by omega) (Option.some.inj h).symm
      · rw [if_neg h0] at h key bad
        have := hin (by omega)
        exact key _ (((num s j).1 : Int), _, (j : Int)) rfl this.1 this.2.1 h
    rw [if_neg hD] at h key bad
    by_cases hQ : nw s j = 34
    · rw [if_pos hQ] at h key bad
      have he := skp_ge quot s (j + 1)
      have he3 := @nw_lt s (skp quot s (j + 1))
      by_cases h34 : nw s (skp quot s (j + 1)) ≠ 34
      · rw [if_pos h34] at h key bad
        exact bad 61 rfl (by decide) (Option.some.inj h).symm
      · rw [if_neg h34] at h key bad
        have he4 := he3 (by omega)
        by_cases h64 : skp quot s (j + 1) - j - 1 > 64
        · rw [if_pos h64] at h key bad
          exact bad 2 rfl (by decide) (Option.some.inj h).symm
        · rw [if_neg h64] at h key bad
          exact key _ (4, _, (j : Int)) rfl (by omega) (by omega) h
    rw [if_neg hQ] at h key bad
    by_cases hM : 0 ≤ mk (nw s j)
    · rw [if_pos hM] at h key bad
      exact key _ (5 + mk (nw s j), _, (j : Int)) rfl (by omega) (by omega) h
    · rw [if_neg hM] at h key bad
      exact bad 60 rfl (by decide) (Option.some.inj h).symm
theorem scan_ref (s : ByteArray) : Ev (fun k => latheref06_Scan.f k s) ((scan s).1.map toS, (scan s).2.1, (scan s).2.2) := by
  by_cases hs : s.size ≤ 65536
  · obtain ⟨t, h1, h2⟩ := scan_go hs _ 0 [] _ (scan_eq (by omega)) (Nat.zero_le _) (Nat.zero_le _)
    refine Ev.congr (fun k => ?_) (Ev.bind h1 h2)
    unfold latheref06_Scan.f
    rw [if_neg (by omega)]
    rfl
  · have e : scan s = ([], 2, 0) := by unfold scan; rw [if_pos (by omega)]
    rw [e]
    refine Ev.congr (f := fun _ => some _) (fun k => ?_) (Ev.now _)
    unfold latheref06_Scan.f
    rw [if_pos (by omega)]
    rfl
theorem same_self (l : List S32) (hl : l.length < 4398046511104) : Ev (fun k => lathelaw06_same.f k l l) true := by
  have key : ∀ d i : Nat, l.length - i ≤ d → i ≤ l.length → Ev (fun k => lathelaw06_same.l0 k l l (i : Int)) true := by
    intro d
    induction d with
    | zero =>
      intro i hi hi2
      refine now_ (fun k => ?_)
      simp only [lathelaw06_same.l0]
      rw [if_neg (by omega)]
    | succ d ih =>
      intro i hi hi2
      by_cases hlt : i < l.length
      · refine Ev.step (fun k => ?_) (ih (i + 1) (by omega) (by omega))
        simp only [lathelaw06_same.l0]
        rw [if_pos (by omega), if_pos (by omega), if_pos (by omega), if_neg (by simp), show wrap64 ((i : Int) + 1) = ((i + 1 : Nat) : Int) by unfold wrap64; omega]
      · refine now_ (fun k => ?_)
        simp only [lathelaw06_same.l0]
        rw [if_neg (by omega)]
  refine Ev.congr (fun k => ?_) (key _ 0 (Nat.le_refl _) (Nat.zero_le _))
  unfold lathelaw06_same.f
  rw [if_pos rfl]
  rfl
theorem scn_len : ∀ n s i l r, scn n s i l = some r → i ≤ s.size → l.length ≤ i → r.1.length ≤ s.size + 1 := by
  intro n
  induction n with
  | zero => intro s i l r h; exact absurd h (by simp [scn])
  | succ n ih =>
    intro s i l r h hi hl
    rw [scn] at h
    have hj := skp_ge Lx.blank s i
    have hj2 : skp Lx.blank s i ≤ s.size := skp_le hi
    generalize skp Lx.blank s i = j at h hj hj2
    have nil : ∀ (x : Int × Int), some (([] : List Tk), x) = some r → r.1.length ≤ s.size + 1 := fun x h => by
      have := Option.some.inj h
      subst this
      simp
    split at h
    · rename_i h35
      have hlt : j < s.size := nw_lt (by omega)
      have h3 : j < skp line s j := by
        rw [skp_step hlt (by rw [h35]; rfl)]
        exact skp_ge _ _ _
      exact ih s _ l r h (skp_le hj2) (by omega)
    split at h
    · have := Option.some.inj h
      subst this
      simp
      omega
    split at h
    · rename_i hL
      have hlt : j < s.size := nw_lt (letter_ne hL)
      have h3 : j < skp lord s j := by
        rw [skp_step hlt (lord_of_letter hL)]
        exact skp_ge _ _ _
      split at h
      · exact nil _ h
      · exact ih s _ _ r h (skp_le hj2) (by simp; omega)
    split at h
    · rename_i hD
      have hlt : j < s.size := nw_lt (digit_ne hD)
      split at h
      · exact nil _ h
      · rename_i he
        have := num_in hlt hD (by simpa using he)
        exact ih s _ _ r h (by omega) (by simp; omega)
    split at h
    · rename_i hQ
      split at h
      · exact nil _ h
      · rename_i he
        have h4 : nw s (skp quot s (j + 1)) = 34 := by simpa using he
        have h5 : skp quot s (j + 1) < s.size := nw_lt (by omega)
        have h6 := skp_ge quot s (j + 1)
        split at h
        · exact nil _ h
        · exact ih s _ _ r h (by omega) (by simp; omega)
    split at h
    · rename_i hM
      have hlt : j < s.size := nw_lt (mk_ne hM)
      exact ih s _ _ r h (by omega) (by simp; omega)
    · exact nil _ h
theorem scan_len (s : ByteArray) : (scan s).1.length ≤ 65537 := by
  by_cases hs : s.size ≤ 65536
  · have := scn_len _ s 0 [] _ (scan_eq (by omega)) (Nat.zero_le _) (Nat.zero_le _)
    omega
  · unfold scan
    rw [if_pos (by omega)]
    exact Nat.zero_le _
set_option maxRecDepth 100000 in
theorem works : lathelaw06_works.f = some true := by
  decide +kernel
theorem scan_f (s : ByteArray) : lex_Scan.f s = some ((scan s).1.map toS, (scan s).2.1, (scan s).2.2) := rfl
theorem scan_ref_at (s : ByteArray) : ∃ K, ∀ k, K ≤ k → latheref06_Scan.f k s = some ((scan s).1.map toS, (scan s).2.1, (scan s).2.2) := scan_ref s
theorem same_self_at (l : List S32) (hl : l.length < 4398046511104) : ∃ K, ∀ k, K ≤ k → lathelaw06_same.f k l l = some true := same_self l hl
end Go.Proofs.Ytmfladkimmnccaa.Pure
