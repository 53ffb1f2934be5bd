/- The scanner's number: what it answers and what becomes of the scanner. Conditions: the scanner's cells, its list, a text of at most 65536 bytes. -/
import Derived.Test.YtmfladkimmnccaaLxd
import Derived.Test.YtmfladkimmnccaaLxs
import Derived.Deep.Cut
import Derived.Deep.CutRange
set_option linter.unusedVariables false
set_option linter.unusedSimpArgs false
namespace Go.Proofs.Ytmfladkimmnccaa.Lx
open Go.RowKit Go.Proofs.YtmfladkimmnccaaW.PrintWords Go.Proofs.YtmfladkimmnccaaW.PrintMore

theorem beqT {a : Nat} {b : Int} (h : (a : Int) = b) : ((a : Int) == b) = true := by subst h; exact beq_self_eq_true _
theorem beqF {a : Nat} {b : Int} (h : ¬ (a : Int) = b) : ((a : Int) == b) = false := beq_eq_false_iff_ne.mpr h
theorem neqT {a : Nat} {b : Int} (h : (a : Int) = b) : ((a : Int) != b) = false := by subst h; simp
theorem neqF {a : Nat} {b : Int} (h : ¬ (a : Int) = b) : ((a : Int) != b) = true := bne_iff_ne.mpr h
theorem grown_below {B : Nat} {w0 w w' : World} {g : Nat} (hB : Below B w0 w) (hBw : B ≤ w.heap.size) (hBg : B ≤ g) (h : w.grownBy w' (some g)) : Below B w0 w' := hB.grown h hBw (fun k hk => by cases hk; exact hBg)
set_option maxHeartbeats 16000000 in
set_option maxRecDepth 100000 in
theorem number (B g j : Nat) (s : ByteArray) (v : Value) (l : List Tk) (w0 w : World) (h : SC w g s j v) (hl : kT.R 32 w B (fun k => k ≠ g) v l) (hB : Below B w0 w) (hBw : B ≤ w.heap.size) (hBg : B ≤ g)
    (hj : j < s.size) (hs : s.size ≤ 65536) (hn : l.length ≤ 65536) (hd : digit (nw s j) = true) :
    Calls Try.prog 61 #[.pointer (some ⟨g, 0, none⟩), .int .i64 j] w fun e w' => e = .returned (.int .i64 (num s j).2.2) ∧ Below B w0 w' ∧
      ((num s j).2.2 = 0 → ∃ u, SC w' g s (num s j).2.1 u ∧ kT.R 32 w' B (fun k => k ≠ g) u (l ++ [(((num s j).1 : Int), s.extract j (num s j).2.1, (j : Int))])) := by
  have hk1 : j < skp digit s j := by
    rw [skp_step hj hd]
    exact skp_ge _ _ _
  have hk2 : skp digit s j ≤ s.size := skp_le (by omega)
  have hno := @num_frac_none s j
  have hno2 := fun kd m => @num_expo_none s j kd m
  have hboth := fun kd m kd' m' => @num_both s j kd m kd' m'
  have hskip := fun w h => skip_digit g j s v w h (by omega) hs
  generalize skp digit s j = k at hk1 hk2 hno hno2 hboth hskip
  have Hno := Aside0.mk hno
  have Hno2 := Aside0.mk hno2
  have Hboth := Aside0.mk hboth
  clear hno hno2 hboth hd
  have hH := Aside0.mk h
  clear h
  go_enter Try.func61, Try.ntmps61
  go_upto_if 12 with (first
    | (go_at_call 52; refine (hskip _ hH.out).mono ?_; rintro e w1 ⟨rfl, h1, hg1⟩)
    | (go_at_call 54; refine (now g k s v _ h1 hk2 hs).mono ?_; rintro e w2 ⟨rfl, ⟨⟨nq2, rfl⟩⟩⟩))
  go_cut [5] from 8 (fun s5 wx => ∃ kd m : Nat, Aside0 (frac s k = some (kd, m)) ∧ s5 = .int .i64 kd ∧ SC wx g s m v ∧ w.grownBy wx (some g) ∧ j < m ∧ m ≤ s.size)
  case first =>
    have c1 := h1.c1
    have f1 := h1.f1
    by_cases h46 : nw s k = 46
    · have b0 : ((nw s k : Int) == 46) = true := beqT (by omega)
      have hlt : k < s.size := nw_lt (by omega)
      have h2 := (h1.drewN nq2).set1 (k + 1)
      have hgs := grown_set (grown_drewN hg1 nq2) (j := 1) (.int .i64 ((k + 1 : Nat) : Int))
      by_cases hz : skp digit s (k + 1) = k + 1
      · have hf : frac s k = none := by unfold frac; rw [if_pos h46, if_pos hz]
        have HN := Aside0.mk (Hno.out hf)
        have hsk := fun w h => skip_digit g (k + 1) s v w h (by omega) hs
        rw [hz, Nat.sub_self] at hsk
        clear hz hf h46
        go_wp2_with (go_at_call 52; refine (hsk _ h2).mono ?_; rintro e w3 ⟨rfl, h3, hg3⟩)
        go_ret
        rw [HN.out]
        exact ⟨rfl, grown_below hB hBw hBg (grown_trans hgs hg3), fun h => absurd h (by decide)⟩
      · have hf : frac s k = some (2, skp digit s (k + 1)) := by unfold frac; rw [if_pos h46, if_neg hz]
        have hm1 := skp_ge digit s (k + 1)
        have hm2 : skp digit s (k + 1) ≤ s.size := skp_le (by omega)
        have hsk := fun w h => skip_digit g (k + 1) s v w h (by omega) hs
        generalize skp digit s (k + 1) = m at hz hf hm1 hm2 hsk
        have b1 : (((m - (k + 1) : Nat) : Int) == 0) = false := beqF (by omega)
        have hF := Aside0.mk hf
        clear hz hf h46
        go_wp2_with (go_at_call 52; refine (hsk _ h2).mono ?_; rintro e w3 ⟨rfl, h3, hg3⟩)
        go_meet
        case rel => exact ⟨2, m, hF, rfl, h3, grown_trans hgs hg3, by omega, hm2⟩
    · have b0 : ((nw s k : Int) == 46) = false := beqF (by omega)
      have hF := Aside0.mk (show frac s k = some (3, k) by unfold frac; rw [if_neg h46])
      clear h46
      go_wp2
      go_meet
      case rel => exact ⟨3, k, hF, rfl, h1.drewN nq2, grown_drewN hg1 nq2, hk1, hk2⟩
  case rest =>
    obtain ⟨kd, m, HF, rfl, hsc, hg, hjm, hm⟩ := hcut
    go_step
    go_step
    go_cut [5] from 8 (fun s5 wx => ∃ kd' m' : Nat, Aside0 (num s j = numEnd s j kd' m') ∧ s5 = .int .i64 kd' ∧ SC wx g s m' v ∧ w.grownBy wx (some g) ∧ j < m' ∧ m' ≤ s.size)
    case first =>
      by_cases hE : nw s m = 101 ∨ nw s m = 69
      · have hlt : m < s.size := nw_lt (by omega)
        have bE : ((nw s m : Int) == 101) = true ∨ (((nw s m : Int) == 101) = false ∧ ((nw s m : Int) == 69) = true) := by
          by_cases h1 : nw s m = 101
          · exact .inl (beqT (by omega))
          · exact .inr ⟨beqF (by omega), beqT (by omega)⟩
        by_cases hS : nw s (m + 1) = 43 ∨ nw s (m + 1) = 45
        · have hlt2 : m + 1 < s.size := nw_lt (by omega)
          have hsg : sgn s m = m + 2 := by unfold sgn; rw [if_pos hS]
          have bS : ((nw s (m + 1) : Int) == 43) = true ∨ (((nw s (m + 1) : Int) == 43) = false ∧ ((nw s (m + 1) : Int) == 45) = true) := by
            by_cases h1 : nw s (m + 1) = 43
            · exact .inl (beqT (by omega))
            · exact .inr ⟨beqF (by omega), beqT (by omega)⟩
          have hsk := fun w h => skip_digit g (m + 2) s v w h (by omega) hs
          have hm1 := skp_ge digit s (m + 2)
          have hm2 : skp digit s (m + 2) ≤ s.size := skp_le (by omega)
          have hex : expo s kd m = if skp digit s (m + 2) = m + 2 then none else some (2, skp digit s (m + 2)) := by unfold expo; rw [if_pos hE, hsg]
          generalize skp digit s (m + 2) = p at hsk hm1 hm2 hex
          by_cases hz : p = m + 2
          · have HN := Aside0.mk (Hno2.out _ _ HF.out (by rw [hex, if_pos hz]))
            subst hz
            rw [Nat.sub_self] at hsk
            clear hex hsg hS hE
            rcases bE with bE | ⟨bE, bE'⟩ <;> rcases bS with bS | ⟨bS, bS'⟩
            all_goals
              go_wp2_with (first
                | (go_at_call 54; refine (now g m s v _ hsc hm hs).mono ?_; rintro e w2 ⟨rfl, ⟨⟨nq3, rfl⟩⟩⟩; have c1 := (hsc.drewN nq3).c1; have f1 := (hsc.drewN nq3).f1; have hs1 := (hsc.drewN nq3).set1 (m + 1); have G1 := grown_set (grown_drewN hg nq3) (j := 1) (.int .i64 ((m + 1 : Nat) : Int)))
                | (go_at_call 54; refine (now g (m + 1) s v _ hs1 (by omega) hs).mono ?_; rintro e w2 ⟨rfl, ⟨⟨nq4, rfl⟩⟩⟩; have c1' := (hs1.drewN nq4).c1; have f1' := (hs1.drewN nq4).f1; have hs2 := (hs1.drewN nq4).set1 (m + 2); have G2 := grown_set (grown_drewN G1 nq4) (j := 1) (.int .i64 ((m + 2 : Nat) : Int)))
                | (go_at_call 52; refine (hsk _ hs2).mono ?_; rintro e w3 ⟨rfl, h3, hg3⟩))
              go_ret
              rw [HN.out]
              exact ⟨rfl, grown_below hB hBw hBg (grown_trans G2 hg3), fun h => absurd h (by decide)⟩
          · have HN := Aside0.mk (Hboth.out _ _ _ _ HF.out (show expo s kd m = some (2, p) by rw [hex, if_neg hz]))
            have bz : (((p - (m + 2) : Nat) : Int) == 0) = false := beqF (by omega)
            clear hex hsg hS hE hz
            rcases bE with bE | ⟨bE, bE'⟩ <;> rcases bS with bS | ⟨bS, bS'⟩
            all_goals
              go_wp2_with (first
                | (go_at_call 54; refine (now g m s v _ hsc hm hs).mono ?_; rintro e w2 ⟨rfl, ⟨⟨nq3, rfl⟩⟩⟩; have c1 := (hsc.drewN nq3).c1; have f1 := (hsc.drewN nq3).f1; have hs1 := (hsc.drewN nq3).set1 (m + 1); have G1 := grown_set (grown_drewN hg nq3) (j := 1) (.int .i64 ((m + 1 : Nat) : Int)))
                | (go_at_call 54; refine (now g (m + 1) s v _ hs1 (by omega) hs).mono ?_; rintro e w2 ⟨rfl, ⟨⟨nq4, rfl⟩⟩⟩; have c1' := (hs1.drewN nq4).c1; have f1' := (hs1.drewN nq4).f1; have hs2 := (hs1.drewN nq4).set1 (m + 2); have G2 := grown_set (grown_drewN G1 nq4) (j := 1) (.int .i64 ((m + 2 : Nat) : Int)))
                | (go_at_call 52; refine (hsk _ hs2).mono ?_; rintro e w3 ⟨rfl, h3, hg3⟩))
              go_meet
              case rel => exact ⟨2, p, HN, rfl, h3, grown_trans G2 hg3, by omega, hm2⟩
        · have hsg : sgn s m = m + 1 := by unfold sgn; rw [if_neg hS]
          have bS : ((nw s (m + 1) : Int) == 43) = false := beqF (by omega)
          have bS' : ((nw s (m + 1) : Int) == 45) = false := beqF (by omega)
          have hsk := fun w h => skip_digit g (m + 1) s v w h (by omega) hs
          have hm1 := skp_ge digit s (m + 1)
          have hm2 : skp digit s (m + 1) ≤ s.size := skp_le (by omega)
          have hex : expo s kd m = if skp digit s (m + 1) = m + 1 then none else some (2, skp digit s (m + 1)) := by unfold expo; rw [if_pos hE, hsg]
          generalize skp digit s (m + 1) = p at hsk hm1 hm2 hex
          by_cases hz : p = m + 1
          · have HN := Aside0.mk (Hno2.out _ _ HF.out (by rw [hex, if_pos hz]))
            subst hz
            rw [Nat.sub_self] at hsk
            clear hex hsg hS hE
            rcases bE with bE | ⟨bE, bE'⟩
            all_goals
              go_wp2_with (first
                | (go_at_call 54; refine (now g m s v _ hsc hm hs).mono ?_; rintro e w2 ⟨rfl, ⟨⟨nq3, rfl⟩⟩⟩; have c1 := (hsc.drewN nq3).c1; have f1 := (hsc.drewN nq3).f1; have hs1 := (hsc.drewN nq3).set1 (m + 1); have G1 := grown_set (grown_drewN hg nq3) (j := 1) (.int .i64 ((m + 1 : Nat) : Int)))
                | (go_at_call 54; refine (now g (m + 1) s v _ hs1 (by omega) hs).mono ?_; rintro e w2 ⟨rfl, ⟨⟨nq4, rfl⟩⟩⟩; have hs2 := hs1.drewN nq4; have G2 := grown_drewN G1 nq4)
                | (go_at_call 52; refine (hsk _ hs2).mono ?_; rintro e w3 ⟨rfl, h3, hg3⟩))
              go_ret
              rw [HN.out]
              exact ⟨rfl, grown_below hB hBw hBg (grown_trans G2 hg3), fun h => absurd h (by decide)⟩
          · have HN := Aside0.mk (Hboth.out _ _ _ _ HF.out (show expo s kd m = some (2, p) by rw [hex, if_neg hz]))
            have bz : (((p - (m + 1) : Nat) : Int) == 0) = false := beqF (by omega)
            clear hex hsg hS hE hz
            rcases bE with bE | ⟨bE, bE'⟩
            all_goals
              go_wp2_with (first
                | (go_at_call 54; refine (now g m s v _ hsc hm hs).mono ?_; rintro e w2 ⟨rfl, ⟨⟨nq3, rfl⟩⟩⟩; have c1 := (hsc.drewN nq3).c1; have f1 := (hsc.drewN nq3).f1; have hs1 := (hsc.drewN nq3).set1 (m + 1); have G1 := grown_set (grown_drewN hg nq3) (j := 1) (.int .i64 ((m + 1 : Nat) : Int)))
                | (go_at_call 54; refine (now g (m + 1) s v _ hs1 (by omega) hs).mono ?_; rintro e w2 ⟨rfl, ⟨⟨nq4, rfl⟩⟩⟩; have hs2 := hs1.drewN nq4; have G2 := grown_drewN G1 nq4)
                | (go_at_call 52; refine (hsk _ hs2).mono ?_; rintro e w3 ⟨rfl, h3, hg3⟩))
              go_meet
              case rel => exact ⟨2, p, HN, rfl, h3, grown_trans G2 hg3, by omega, hm2⟩
      · have b0 : ((nw s m : Int) == 101) = false := beqF (by omega)
        have b1 : ((nw s m : Int) == 69) = false := beqF (by omega)
        have hX := Aside0.mk (Hboth.out _ _ _ _ HF.out (show expo s kd m = some (kd, m) by unfold expo; rw [if_neg hE]))
        clear hE
        go_wp2_with (go_at_call 54; refine (now g m s v _ hsc hm hs).mono ?_; rintro e w2 ⟨rfl, ⟨⟨nq3, rfl⟩⟩⟩)
        go_meet
        case rel => exact ⟨kd, m, hX, rfl, hsc.drewN nq3, grown_drewN hg nq3, hjm, hm⟩
    case rest =>
      obtain ⟨kd', m', HN, rfl, hsc', hg', hjm', hm'⟩ := hcut
      have c1 := hsc'.c1
      have hend := HN.out
      unfold numEnd at hend
      by_cases hL : letter (nw s m') = true ∨ nw s m' = 46
      · rw [if_pos hL] at hend
        have HN' := Aside0.mk hend
        have hLc := fun w => cls_letter (nw s m') w (nw_byte _ _)
        have bL : letter (nw s m') = true ∨ (letter (nw s m') = false ∧ ((nw s m' : Int) == 46) = true) := by
          by_cases h1 : letter (nw s m') = true
          · exact .inl h1
          · have h2 := hL.resolve_left h1
            exact .inr ⟨by simpa using h1, beqT (by omega)⟩
        clear hL hend HN
        generalize letter (nw s m') = bb at hLc bL
        rcases bL with rfl | ⟨rfl, bL⟩
        all_goals
          go_wp2_with (first
            | (go_at_call 54; refine (now g m' s v _ hsc' hm' hs).mono ?_; rintro e w2 ⟨rfl, ⟨⟨nq3, rfl⟩⟩⟩)
            | (go_at_call 56; refine (hLc _).mono ?_; rintro e w2 ⟨rfl, rfl⟩))
          go_ret
          rw [HN'.out]
          exact ⟨rfl, grown_below hB hBw hBg (grown_drewN hg' _), fun h => absurd h (by decide)⟩
      · rw [if_neg hL] at hend
        have hLc := fun w => cls_letter (nw s m') w (nw_byte _ _)
        rw [show letter (nw s m') = false by simpa using fun h => hL (.inl h)] at hLc
        have b46 : ((nw s m' : Int) == 46) = false := beqF (fun h => hL (.inr (by omega)))
        by_cases h64 : m' - j > 64
        · rw [if_pos h64] at hend
          have HN' := Aside0.mk hend
          have b64 : decide ((64 : Int) < (m' : Int) - (j : Int)) = true := decide_eq_true (by omega)
          clear hL hend HN h64
          go_wp2_with (first
            | (go_at_call 54; refine (now g m' s v _ hsc' hm' hs).mono ?_; rintro e w2 ⟨rfl, ⟨⟨nq3, rfl⟩⟩⟩; have c1' := (hsc'.drewN nq3).c1)
            | (go_at_call 56; refine (hLc _).mono ?_; rintro e w2 ⟨rfl, rfl⟩))
          go_ret
          rw [HN'.out]
          exact ⟨rfl, grown_below hB hBw hBg (grown_drewN hg' _), fun h => absurd h (by decide)⟩
        · rw [if_neg h64] at hend
          have HN' := Aside0.mk hend
          have b64 : decide ((64 : Int) < (m' : Int) - (j : Int)) = false := decide_eq_false (by omega)
          have hR := Kd.R_grown hl hg' (fun k hk e => hk (Option.some.inj e))
          have hB' := grown_below hB hBw hBg hg'
          clear hL hend HN h64
          go_wp2_with (first
            | (go_at_call 54; refine (now g m' s v _ hsc' hm' hs).mono ?_; rintro e w2 ⟨rfl, ⟨⟨nq3, rfl⟩⟩⟩; have c1' := (hsc'.drewN nq3).c1)
            | (go_at_call 56; refine (hLc _).mono ?_; rintro e w2 ⟨rfl, rfl⟩)
            | (go_at_call 59; refine (add B g m' j kd' s v l w0 _ (hsc'.drewN nq3) (Kd.R_drewN hR nq3) (pw_below_drewN hB' nq3) (Nat.le_trans hBw hg'.size) hBg (by omega) hm' hs hn).mono ?_; rintro e w4 ⟨rfl, u, hu1, hu2, hu3⟩))
          go_ret
          rw [HN'.out]
          exact ⟨rfl, hu3, fun _ => ⟨u, hu1, hu2⟩⟩
end Go.Proofs.Ytmfladkimmnccaa.Lx
