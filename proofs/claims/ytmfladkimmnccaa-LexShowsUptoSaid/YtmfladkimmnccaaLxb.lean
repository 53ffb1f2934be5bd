/- The plain scan of what tokens are shown as. No condition. -/
import Derived.Test.YtmfladkimmnccaaLxl
import Derived.Test.YtmfladkimmnccaaLxq
set_option linter.unusedVariables false
set_option linter.unusedSimpArgs false
namespace Go.Proofs.Ytmfladkimmnccaa.Lx

/-- No number goes on here. -/
def Stop (c : Nat) : Prop := digit c = false ∧ letter c = false ∧ c ≠ 46 ∧ c ≠ 69
theorem stop0 : Stop 0 := ⟨by decide, by decide, by decide, by decide⟩
theorem stop32 : Stop 32 := ⟨by decide, by decide, by decide, by decide⟩
/-- Two texts agree on n bytes. -/
def Agree (a : ByteArray) (da : Nat) (b : ByteArray) (db n : Nat) : Prop := (∀ i, i < n → nw a (da + i) = nw b (db + i)) ∧ da + n ≤ a.size ∧ db + n ≤ b.size
theorem skp_agree {P : Nat → Bool} {a b : ByteArray} {da db n : Nat} (h : Agree a da b db n) (ha : ¬ (da + n < a.size ∧ P (nw a (da + n)) = true)) (hb : ¬ (db + n < b.size ∧ P (nw b (db + n)) = true)) :
    ∀ d i, n - i ≤ d → i ≤ n → ∃ m, i ≤ m ∧ m ≤ n ∧ skp P a (da + i) = da + m ∧ skp P b (db + i) = db + m := by
  intro d
  induction d with
  | zero =>
    intro i hi hi2
    obtain rfl : i = n := by omega
    exact ⟨i, Nat.le_refl _, Nat.le_refl _, skp_stop ha, skp_stop hb⟩
  | succ d ih =>
    intro i hi hi2
    by_cases hn : i = n
    · subst hn
      exact ⟨i, Nat.le_refl _, Nat.le_refl _, skp_stop ha, skp_stop hb⟩
    · have hlt : i < n := by omega
      have e := h.1 i hlt
      have h2 := h.2
      by_cases hp : P (nw a (da + i)) = true
      · obtain ⟨m, m1, m2, m3, m4⟩ := ih (i + 1) (by omega) (by omega)
        refine ⟨m, by omega, m2, ?_, ?_⟩
        · rw [skp_step (by omega) hp]; exact m3
        · rw [skp_step (by omega) (by rw [← e]; exact hp)]; exact m4
      · exact ⟨i, Nat.le_refl _, hi2, skp_stop (fun h => hp h.2), skp_stop (fun h => hp (by rw [e]; exact h.2))⟩
theorem digits_agree {a b : ByteArray} {da db n : Nat} (h : Agree a da b db n) (ha : Stop (nw a (da + n))) (hb : Stop (nw b (db + n))) (i : Nat) (hi : i ≤ n) : ∃ m, i ≤ m ∧ m ≤ n ∧ skp digit a (da + i) = da + m ∧ skp digit b (db + i) = db + m :=
  skp_agree h (fun h => by rw [ha.1] at h; exact absurd h.2 (by decide)) (fun h => by rw [hb.1] at h; exact absurd h.2 (by decide)) _ i (Nat.le_refl _) hi
theorem nw_agree {a b : ByteArray} {da db n : Nat} (h : Agree a da b db n) (ha : Stop (nw a (da + n))) (hb : Stop (nw b (db + n))) {i c : Nat} (hi : i ≤ n) (hc : ¬ Stop c) : nw a (da + i) = c ↔ nw b (db + i) = c := by
  by_cases hn : i = n
  · subst hn
    exact ⟨fun e => absurd (e ▸ ha) hc, fun e => absurd (e ▸ hb) hc⟩
  · rw [h.1 i (by omega)]
theorem nstop {c : Nat} (h : digit c = true ∨ letter c = true ∨ c = 46 ∨ c = 69) : ¬ Stop c := by
  rintro ⟨h1, h2, h3, h4⟩
  rcases h with h | h | h | h
  · rw [h1] at h; exact absurd h (by decide)
  · rw [h2] at h; exact absurd h (by decide)
  · exact h3 h
  · exact h4 h
theorem nw_pos {a : ByteArray} {da n i c : Nat} (ha : Stop (nw a (da + n))) (hi : i ≤ n) (h : nw a (da + i) = c) (hc : ¬ Stop c) : i < n := by
  by_cases hn : i = n
  · subst hn
    exact absurd (h ▸ ha) hc
  · omega
/-- A number that ends at n in the one text ends there in the other. -/
theorem num_agree {a b : ByteArray} {da db n kd : Nat} (h : Agree a da b db n) (ha : Stop (nw a (da + n))) (hb : Stop (nw b (db + n))) (hn : num a da = (kd, da + n, 0)) : num b db = (kd, db + n, 0) := by
  have h46 : ¬ Stop 46 := nstop (.inr (.inr (.inl rfl)))
  have h101 : ¬ Stop 101 := nstop (.inr (.inl (by decide)))
  have h69 : ¬ Stop 69 := nstop (.inr (.inr (.inr rfl)))
  obtain ⟨k, k1, k2, k3, k4⟩ := digits_agree h ha hb 0 (Nat.zero_le _)
  rw [Nat.add_zero] at k3 k4
  -- the fraction
  have hf : ∀ q p, p ≤ n → frac a (da + k) = some (q, da + p) → frac b (db + k) = some (q, db + p) := by
    intro q p hp hq
    unfold frac at hq ⊢
    have e46 := nw_agree h ha hb k2 h46
    by_cases c46 : nw a (da + k) = 46
    · rw [if_pos c46] at hq
      rw [if_pos (e46.mp c46)]
      have hk := nw_pos ha k2 c46 h46
      obtain ⟨m, m1, m2, m3, m4⟩ := digits_agree h ha hb (k + 1) (by omega)
      rw [show da + k + 1 = da + (k + 1) by omega, m3] at hq
      rw [show db + k + 1 = db + (k + 1) by omega, m4]
      by_cases hz : da + m = da + (k + 1)
      · rw [if_pos hz] at hq; cases hq
      · rw [if_neg hz] at hq
        rw [if_neg (by omega)]
        have := Option.some.inj hq
        simp only [Prod.mk.injEq] at this
        rw [show m = p by omega, this.1]
    · rw [if_neg c46] at hq
      rw [if_neg (fun e => c46 (e46.mpr e))]
      have := Option.some.inj hq
      simp only [Prod.mk.injEq] at this
      rw [show k = p by omega, this.1]
  have hfa : ∀ q p, frac a (da + k) = some (q, p) → ∃ p', p = da + p' ∧ k ≤ p' ∧ p' ≤ n := by
    intro q p hq
    unfold frac at hq
    by_cases c46 : nw a (da + k) = 46
    · rw [if_pos c46] at hq
      have hk := nw_pos ha k2 c46 h46
      obtain ⟨m, m1, m2, m3, m4⟩ := digits_agree h ha hb (k + 1) (by omega)
      rw [show da + k + 1 = da + (k + 1) by omega, m3] at hq
      split at hq
      · cases hq
      · have := Option.some.inj hq
        simp only [Prod.mk.injEq] at this
        exact ⟨m, this.2.symm, by omega, m2⟩
    · rw [if_neg c46] at hq
      have := Option.some.inj hq
      simp only [Prod.mk.injEq] at this
      exact ⟨k, this.2.symm, Nat.le_refl _, k2⟩
  cases hfq : frac a (skp digit a da) with
  | none => rw [num_frac_none hfq] at hn; exact absurd hn (by simp)
  | some x =>
    obtain ⟨q, p⟩ := x
    rw [k3] at hfq
    obtain ⟨p', rfl, p1, p2⟩ := hfa q p hfq
    have hfb := hf q p' p2 hfq
    cases hxq : expo a q (da + p') with
    | none => rw [num_expo_none (by rw [k3]; exact hfq) hxq] at hn; exact absurd hn (by simp)
    | some y =>
      obtain ⟨q2, m⟩ := y
      rw [num_both (by rw [k3]; exact hfq) hxq] at hn
      have hm : m = da + n ∧ q2 = kd ∧ m - da ≤ 64 := by
        unfold numEnd at hn
        split at hn
        · exact absurd hn (by simp)
        · split at hn
          · exact absurd hn (by simp)
          · simp only [Prod.mk.injEq] at hn
            omega
      obtain ⟨rfl, rfl, hm64⟩ := hm
      have hxb : expo b q (db + p') = some (q2, db + n) := by
        unfold expo at hxq ⊢
        have e101 := nw_agree h ha hb p2 h101
        have e69 := nw_agree h ha hb p2 h69
        by_cases cE : nw a (da + p') = 101 ∨ nw a (da + p') = 69
        · rw [if_pos cE] at hxq
          rw [if_pos (cE.imp e101.mp e69.mp)]
          have hp : p' < n := by
            rcases cE with c | c
            · exact nw_pos ha p2 c h101
            · exact nw_pos ha p2 c h69
          -- the sign
          have hs : ∃ g, g ≤ n ∧ p' + 1 ≤ g ∧ sgn a (da + p') = da + g ∧ (g < n → sgn b (db + p') = db + g) := by
            unfold sgn
            by_cases hp1 : p' + 1 < n
            · have e := h.1 (p' + 1) hp1
              rw [show da + p' + 1 = da + (p' + 1) by omega, show db + p' + 1 = db + (p' + 1) by omega, e]
              by_cases cs : nw b (db + (p' + 1)) = 43 ∨ nw b (db + (p' + 1)) = 45
              · rw [if_pos cs, if_pos cs]
                exact ⟨p' + 2, by omega, by omega, by omega, fun _ => by omega⟩
              · rw [if_neg cs, if_neg cs]
                exact ⟨p' + 1, by omega, by omega, by omega, fun _ => by omega⟩
            · obtain rfl : n = p' + 1 := by omega
              by_cases cs : nw a (da + p' + 1) = 43 ∨ nw a (da + p' + 1) = 45
              · exfalso
                have hlt : da + p' + 1 < a.size := nw_lt (by omega)
                have : sgn a (da + p') = da + p' + 2 := by unfold sgn; rw [if_pos cs]
                rw [this] at hxq
                have := skp_ge digit a (da + p' + 2)
                split at hxq
                · cases hxq
                · have := Option.some.inj hxq
                  simp only [Prod.mk.injEq] at this
                  omega
              · rw [if_neg cs]
                exact ⟨p' + 1, Nat.le_refl _, Nat.le_refl _, by omega, fun h => absurd h (by omega)⟩
          obtain ⟨g, g1, g2, g3, g4⟩ := hs
          obtain ⟨w, w1, w2, w3, w4⟩ := digits_agree h ha hb g g1
          rw [g3, w3] at hxq
          by_cases hz : da + w = da + g
          · rw [if_pos hz] at hxq; cases hxq
          · rw [if_neg hz] at hxq
            have := Option.some.inj hxq
            simp only [Prod.mk.injEq] at this
            rw [g4 (by omega), w4, if_neg (by omega), this.1, show w = n by omega]
        · rw [if_neg cE] at hxq
          rw [if_neg (fun e => cE (e.imp e101.mpr e69.mpr))]
          have := Option.some.inj hxq
          simp only [Prod.mk.injEq] at this
          rw [this.1, show p' = n by omega]
      rw [num_both (by rw [k4]; exact hfb) hxb]
      unfold numEnd
      rw [if_neg (by rintro (c | c); exact absurd (hb.2.1.symm.trans c) (by decide); exact hb.2.2.1 c), if_neg (by omega)]
/-- The bytes that a number ends at. -/
theorem num_stop {s : ByteArray} {j kd m : Nat} (hj : j < s.size) (hd : digit (nw s j) = true) (h : num s j = (kd, m, 0)) (h69 : nw s m ≠ 69) : Stop (nw s m) := by
  have h2 : skp digit s j ≤ s.size := skp_le (by omega)
  have hskp : ∀ i, i ≤ s.size → digit (nw s (skp digit s i)) = false := by
    intro i hi
    by_cases hlt : skp digit s i < s.size
    · exact skp_end hlt
    · rw [show nw s (skp digit s i) = 0 by unfold nw; rw [dif_neg hlt]]
      decide
  cases hf : frac s (skp digit s j) with
  | none => rw [num_frac_none hf] at h; exact absurd h (by simp)
  | some x =>
    obtain ⟨q, p⟩ := x
    have hp : p ≤ s.size ∧ digit (nw s p) = false := by
      unfold frac at hf
      split at hf
      · rename_i c46
        have hlt : skp digit s j < s.size := nw_lt (by omega)
        split at hf
        · cases hf
        · have := Option.some.inj hf
          simp only [Prod.mk.injEq] at this
          rw [← this.2]
          exact ⟨skp_le (by omega), hskp _ (by omega)⟩
      · have := Option.some.inj hf
        simp only [Prod.mk.injEq] at this
        rw [← this.2]
        exact ⟨h2, hskp _ (by omega)⟩
    cases hx : expo s q p with
    | none => rw [num_expo_none hf hx] at h; exact absurd h (by simp)
    | some y =>
      obtain ⟨q2, m'⟩ := y
      rw [num_both hf hx] at h
      have hm : digit (nw s m') = false := by
        unfold expo at hx
        split at hx
        · rename_i cE
          have hlt : p < s.size := nw_lt (by omega)
          have hsg : sgn s p ≤ s.size := by
            unfold sgn
            split
            · rename_i cs
              have : p + 1 < s.size := nw_lt (by omega)
              omega
            · omega
          split at hx
          · cases hx
          · have := Option.some.inj hx
            simp only [Prod.mk.injEq] at this
            rw [← this.2]
            exact hskp _ hsg
        · have := Option.some.inj hx
          simp only [Prod.mk.injEq] at this
          rw [← this.2]
          exact hp.2
      unfold numEnd at h
      split at h
      · exact absurd h (by simp)
      · rename_i hl
        split at h
        · exact absurd h (by simp)
        · simp only [Prod.mk.injEq] at h
          rw [← h.2.1] at h69 ⊢
          exact ⟨hm, by simpa using fun c => hl (.inl c), fun c => hl (.inr c), h69⟩
end Go.Proofs.Ytmfladkimmnccaa.Lx
