/- LexAhead: blanks ahead move all places, and nothing else. No condition. -/
import Derived.Test.YtmfladkimmnccaaPLx10
import Derived.Test.YtmfladkimmnccaaLxp
import Derived.Test.YtmfladkimmnccaaLxq
set_option linter.unusedVariables false
set_option linter.unusedSimpArgs false
namespace Go.Proofs.Ytmfladkimmnccaa.Pure
open Go.RowKit Go.Proofs.Ytmfladkimmnccaa.PL Go.Proofs.YtmfladkimmnccaaW.PrintWords Go.Proofs.YtmfladkimmnccaaW.PrintLast Go.Proofs.Ytmfladkimmnccaa.Lx

theorem scn_places : ∀ n s i l r, scn n s i l = some r → i ≤ s.size → (∀ t ∈ l, 0 ≤ t.2.2 ∧ t.2.2 ≤ (s.size : Int)) → (∀ t ∈ r.1, 0 ≤ t.2.2 ∧ t.2.2 ≤ (s.size : Int)) ∧ 0 ≤ r.2.2 ∧ r.2.2 ≤ (s.size : Int) := by
  intro n
  induction n with
  | zero => intro s i l r h; exact absurd h (by simp [scn])
  | succ n ih =>
    intro s i l r h hi hl
    rw [scn] at h
    have hj2 : skp Lx.blank s i ≤ s.size := skp_le hi
    generalize skp Lx.blank s i = j at h hj2
    have bad : ∀ (e : Int), some (([] : List Tk), e, (j : Int)) = some r → (∀ t ∈ r.1, 0 ≤ t.2.2 ∧ t.2.2 ≤ (s.size : Int)) ∧ 0 ≤ r.2.2 ∧ r.2.2 ≤ (s.size : Int) := by
      intro e h
      have := Option.some.inj h
      subst this
      exact ⟨fun t ht => (by cases ht), by simp, by simp; omega⟩
    have one : ∀ (k : Int) (x : ByteArray), ∀ t ∈ l ++ [(k, x, (j : Int))], 0 ≤ t.2.2 ∧ t.2.2 ≤ (s.size : Int) := by
      intro k x t ht
      rcases List.mem_append.mp ht with h | h
      · exact hl t h
      · have := List.mem_singleton.mp h
        subst this
        exact ⟨by simp, by simp; omega⟩
    split at h
    · exact ih s _ l r h (skp_le hj2) hl
    split at h
    · have := Option.some.inj h
      subst this
      exact ⟨one _ _, by simp, by simp⟩
    split at h
    · split at h
      · exact bad _ h
      · exact ih s _ _ r h (skp_le hj2) (one _ _)
    split at h
    · rename_i hD
      have hlt : j < s.size := nw_lt (digit_ne hD)
      split at h
      · exact bad _ h
      · rename_i he
        have := num_in hlt hD (by simpa using he)
        exact ih s _ _ r h (by omega) (one _ _)
    split at h
    · rename_i hQ
      split at h
      · exact bad _ h
      · rename_i he
        have h4 : nw s (skp quot s (j + 1)) = 34 := by simpa using he
        have h5 : skp quot s (j + 1) < s.size := nw_lt (by omega)
        split at h
        · exact bad _ h
        · exact ih s _ _ r h (by omega) (one _ _)
    split at h
    · rename_i hM
      have hlt : j < s.size := nw_lt (mk_ne hM)
      exact ih s _ _ r h (by omega) (one _ _)
    · exact bad _ h
theorem scan_places {s : ByteArray} (hs : s.size ≤ 65536) : (∀ t ∈ (scan s).1, 0 ≤ t.2.2 ∧ t.2.2 ≤ (s.size : Int)) ∧ 0 ≤ (scan s).2.2 ∧ (scan s).2.2 ≤ (s.size : Int) :=
  scn_places _ s 0 [] _ (scan_eq (by omega)) (Nat.zero_le _) (fun t ht => by cases ht)
theorem same_sh (B : Nat) (hB : B ≤ 65536) (l : List Tk) (hlen : l.length ≤ 65537) (hl : ∀ t ∈ l, 0 ≤ t.2.2 ∧ t.2.2 ≤ (65536 : Int)) : ∀ d i : Nat, l.length - i ≤ d → i ≤ l.length → Ev (fun k => lathelaw06_LexAhead.l1 k (B : Int) (l.map toS) ((l.map (shT B)).map toS) (i : Int)) true := by
  intro d
  have last : ∀ i : Nat, ¬ i < l.length → Ev (fun k => lathelaw06_LexAhead.l1 k (B : Int) (l.map toS) ((l.map (shT B)).map toS) (i : Int)) true := by
    intro i hi
    refine now_ (fun k => ?_)
    simp only [lathelaw06_LexAhead.l1]
    rw [if_neg (by rw [List.length_map]; omega), works]
    rfl
  induction d with
  | zero => intro i hi hi2; exact last i (by omega)
  | succ d ih =>
    intro i hi hi2
    by_cases hlt : i < l.length
    · refine Ev.step (fun k => ?_) (ih (i + 1) (by omega) (by omega))
      have h1 : rd_T32 (l.map toS) (i : Int) = toS (l[i]) := by
        unfold rd_T32
        rw [Int.toNat_natCast]
        simp [List.getD_eq_getElem?_getD, hlt]
      have h2 : rd_T32 ((l.map (shT B)).map toS) (i : Int) = toS (shT B (l[i])) := by
        unfold rd_T32
        rw [Int.toNat_natCast]
        simp [List.getD_eq_getElem?_getD, hlt]
      have hb := hl (l[i]) (List.getElem_mem _)
      simp only [lathelaw06_LexAhead.l1]
      rw [if_pos (by rw [List.length_map]; omega), if_pos (by omega), if_pos (by rw [List.length_map, List.length_map]; omega), h1, h2]
      have hw : wrap64 ((toS (l[i])).f2 + (B : Int)) = (toS (shT B (l[i]))).f2 := by
        show wrap64 ((l[i]).2.2 + (B : Int)) = (l[i]).2.2 + (B : Int)
        unfold wrap64
        omega
      rw [hw, if_neg (by simp [toS, shT]), show wrap64 ((i : Int) + 1) = ((i + 1 : Nat) : Int) by unfold wrap64; omega]
    · exact last i hlt
theorem four (m : Nat) (hm : m < 4) : ((⟨#[32, 9, 10, 13]⟩ : ByteArray).extract m (m + 1)).size = 1 ∧ Lx.blank (nw ((⟨#[32, 9, 10, 13]⟩ : ByteArray).extract m (m + 1)) 0) = true := by
  revert m
  decide +kernel
theorem ahead_end (s : ByteArray) (hs0 : s.size ≤ 140737488351232) (B : Nat) (hB : B ≤ 200) (x : ByteArray) (hx : x.size = B) (hbl : ∀ p, p < x.size → Lx.blank (nw x p) = true) : Ev (fun k => lathelaw06_LexAhead.l0 k s (B : Int) x (B : Int)) true := by
  have hsum : x.size + s.size ≤ 9223372036854775807 := by omega
  by_cases hbig : x.size + s.size > 65536
  · have e : scan (x ++ s) = ([], 2, 0) := by unfold scan; rw [if_pos (by rw [ByteArray.size_append]; omega)]
    refine now_ (fun k => ?_)
    simp only [lathelaw06_LexAhead.l0]
    rw [if_neg (by omega), scan_f]
    simp -implicitDefEqProofs only [Option.bind_some]
    rw [if_pos hsum, scan_f, e]
    simp -implicitDefEqProofs only [Option.bind_some]
    rw [if_pos (by unfold wrap64; omega), if_pos trivial, if_pos trivial, works]
    rfl
  · have e := scan_ahead x s hbl (by omega)
    have hp := scan_places (s := s) (by omega)
    have hlen := scan_len s
    obtain ⟨K, hK⟩ : ∃ K, ∀ k, K ≤ k → lathelaw06_LexAhead.l1 k (B : Int) ((scan s).1.map toS) (((scan s).1.map (shT B)).map toS) ((0 : Nat) : Int) = some true := same_sh B (by omega) (scan s).1 hlen (fun t ht => by have := hp.1 t ht; omega) _ 0 (Nat.le_refl _) (Nat.zero_le _)
    refine ⟨K + 2, fun k hk => ?_⟩
    obtain ⟨k, rfl⟩ : ∃ m, k = m + 2 := ⟨k - 2, by omega⟩
    have hj : lathelaw06_LexAhead.j1 (k + 1) (B : Int) ((scan s).1.map toS) (((scan s).1.map (shT B)).map toS) false = some true := by
      simp only [lathelaw06_LexAhead.j1, Bool.false_eq_true, if_false]
      exact hK k (by omega)
    rw [hx] at e
    simp only [lathelaw06_LexAhead.l0]
    rw [if_neg (by omega), scan_f]
    simp -implicitDefEqProofs only [Option.bind_some]
    rw [if_pos hsum, scan_f, e]
    simp -implicitDefEqProofs only [Option.bind_some]
    rw [if_neg (by unfold wrap64; omega), if_pos (show (scan s).2.1 = (shR B (scan s)).2.1 from rfl), if_pos (by simp [shR])]
    by_cases h0 : (scan s).2.1 = 0
    · rw [if_pos h0]
      exact hj
    · rw [if_neg h0]
      have hpl : ((shR B (scan s)).2.2 != wrap64 ((scan s).2.2 + (B : Int))) = false := by
        unfold shR
        rw [if_neg h0]
        have := hp.2
        rw [show wrap64 ((scan s).2.2 + (B : Int)) = (scan s).2.2 + (B : Int) by unfold wrap64; omega]
        simp
      rw [hpl]
      exact hj
theorem ahead_go (s : ByteArray) (hs0 : s.size ≤ 140737488351232) (B : Nat) (hB : B ≤ 200) : ∀ d i (x : ByteArray), B - i ≤ d → i ≤ B → x.size = i → (∀ p, p < x.size → Lx.blank (nw x p) = true) → Ev (fun k => lathelaw06_LexAhead.l0 k s (B : Int) x (i : Int)) true := by
  intro d
  induction d with
  | zero =>
    intro i x h1 h2 h3 h4
    obtain rfl : i = B := by omega
    exact ahead_end s hs0 i hB x h3 h4
  | succ d ih =>
    intro i x h1 h2 h3 h4
    by_cases hlt : i < B
    · obtain ⟨f1, f2⟩ := four (i % 4) (Nat.mod_lt _ (by decide))
      have hm : Int.tmod (i : Int) 4 = ((i % 4 : Nat) : Int) := by
        rw [Int.tmod_eq_emod_of_nonneg (by omega)]
        omega
      have hm4 : i % 4 < 4 := Nat.mod_lt _ (by decide)
      generalize i % 4 = m at f1 f2 hm hm4
      refine Ev.step (fun k => ?_) (ih (i + 1) (x ++ (⟨#[32, 9, 10, 13]⟩ : ByteArray).extract m (m + 1)) (by omega) (by omega) (by rw [ByteArray.size_append]; omega) (fun p hp => ?_))
      · simp only [lathelaw06_LexAhead.l0]
        rw [if_pos (by omega), hm, show wrap64 ((m : Int) + 1) = ((m + 1 : Nat) : Int) by unfold wrap64; omega, if_pos (by omega), if_pos (by omega), if_pos (by omega)]
        simp only [Int.toNat_natCast]
        rw [if_pos (by omega), show wrap64 ((i : Int) + 1) = ((i + 1 : Nat) : Int) by unfold wrap64; omega]
      · by_cases hp2 : p < x.size
        · rw [nw_left _ _ _ hp2]
          exact h4 p hp2
        · rw [ByteArray.size_append] at hp
          obtain rfl : p = 0 + x.size := by omega
          rw [nw_shift]
          exact f2
    · obtain rfl : i = B := by omega
      exact ahead_end s hs0 i hB x h3 h4
theorem LexAhead : lathelaw06_LexAhead.Pure := by
  intro s n hs hn
  obtain ⟨B, hB, hBe⟩ : ∃ B : Nat, B ≤ 200 ∧ mx 0 (mn n 200) = (B : Int) := by
    refine ⟨(mx 0 (mn n 200)).toNat, ?_, ?_⟩ <;> (unfold mx mn; omega)
  obtain ⟨K, h⟩ := ahead_go s hs B hB B 0 (⟨#[]⟩ : ByteArray) (by omega) (Nat.zero_le _) rfl (fun p hp => by exact absurd hp (Nat.not_lt_zero _))
  refine ⟨K, ?_⟩
  unfold lathelaw06_LexAhead.f
  rw [hBe]
  exact h K (Nat.le_refl _)
end Go.Proofs.Ytmfladkimmnccaa.Pure
