/- SchedDown: a polynomial schedule goes one way, and from its end on it is its end. No condition. -/
import Derived.Test.YtmfladkimmnccaaDoorSwe
import Derived.Test.YtmfladkimmnccaaDoorPWx10
set_option linter.unusedVariables false
set_option linter.unusedSimpArgs false
namespace Go.Proofs.YtmfladkimmnccaaDoor.Pure
open Go.RowKit Lathe Go.Proofs.YtmfladkimmnccaaDoor.PW Go.Proofs.YtmfladkimmnccaaDoorW.PrintWords Go.Proofs.YtmfladkimmnccaaDoorW.PrintMore Go.Proofs.YtmfladkimmnccaaDoor.Swv Go.Proofs.YtmfladkimmnccaaDoor.Swb Go.Proofs.YtmfladkimmnccaaDoor.Swd Go.Proofs.YtmfladkimmnccaaDoor.Swe Go.Proofs.YtmfladkimmnccaaDoor.Rlb Go.Proofs.YtmfladkimmnccaaDoor.Rlc Go.Proofs.YtmfladkimmnccaaDoor.Rle

theorem may_fin (a : Nat) (ha : a < 4294967296) : May.fin (a : Int) = decide (rg a < 2139095040) := by
  unfold May.fin
  have hr := rg_lt a
  have e : Go.bits .and .u32 (a : Int) 2139095040 = ((rg a / 8388608 * 8388608 : Nat) : Int) := by
    have := u32_and_nat a 2139095040 ha (by omega)
    rw [and_exp] at this
    exact this
  rw [e, Bool.eq_iff_iff]
  simp only [bne_iff_ne, ne_eq, decide_eq_true_eq]
  omega
theorem whole {a : Int} (h : (Lit.int .i64 a).wf = true) : -9223372036854775808 ≤ a ∧ a ≤ 9223372036854775807 := by
  simp [Lit.wf, IntKind.min, IntKind.max, IntKind.signed, IntKind.bits] at h
  omega
theorem counts_one (k : Nat) (a : Int) (l1 l2 : List Int) : sched_counts.f (k + 2) a l1 l2 ([] : List (S26)) = some (1, 1) := by
  simp only [sched_counts.f, sched_counts.l0]
  rw [if_neg (by decide), show wrap64 (0 + 1) = 1 by unfold wrap64; omega]
/-- What a polynomial schedule is at a step. -/
def Fits (A B : Nat) (p st fr n : Int) : Prop := rg A < 2139095040 ∧ rg B < 2139095040 ∧ 1 ≤ p ∧ p ≤ 1024 ∧ 1 ≤ st ∧ st ≤ 2147483647 ∧ 0 ≤ fr ∧ fr ≤ 2147483647 ∧ 0 ≤ n ∧ n ≤ 2147483647
theorem value_of (k A B : Nat) (p st fr n : Int) (hA : A < 4294967296) (hB : B < 4294967296) :
    (Fits A B p st fr n ∧ sched_Value.f (k + 2) 2 [(A : Int), (B : Int)] [p, st, fr] [] n = some (((val A B (fpow (Atp.fra (Atp.lim n st fr) st) p) : Nat) : Int), 0)) ∨ sched_Value.f (k + 2) 2 [(A : Int), (B : Int)] [p, st, fr] [] n = some (0, 1) := by
  have hat : sched_at.f 2 [(A : Int), (B : Int)] [p, st, fr] [] n = if p ≤ 9223372036854775807 then some ((val A B (fpow (Atp.fra (Atp.lim n st fr) st) p) : Nat) : Int) else none := by
    unfold sched_at.f
    by_cases c : p ≤ 9223372036854775807
    · rw [if_pos c, if_pos ⟨rfl, rfl, rfl, Int.natCast_nonneg _, c⟩]
      rfl
    · rw [if_neg c, if_neg (fun h => c h.2.2.2.2)]
  have hmay : sched_may.f 2 [(A : Int), (B : Int)] [p, st, fr] [] = some ((decide (rg A < 2139095040) && decide (rg B < 2139095040)) && (true && (Row.win p 1 1024 && (Row.win st 1 2147483647 && Row.win fr 0 2147483647)))) := by
    rw [← may_fin A hA, ← may_fin B hB]
    rfl
  unfold sched_Value.f sched_Check.f
  rw [counts_one, hmay]
  simp -implicitDefEqProofs only [Option.bind_some]
  rw [if_neg (by decide), if_neg (by decide)]
  by_cases hc : ((decide (rg A < 2139095040) && decide (rg B < 2139095040)) && (true && (Row.win p 1 1024 && (Row.win st 1 2147483647 && Row.win fr 0 2147483647)))) = true
  · rw [if_pos hc]
    simp -implicitDefEqProofs only [Option.bind_some]
    rw [if_pos trivial]
    unfold sched_within.f
    simp only [Row.win, Bool.and_eq_true, decide_eq_true_eq, true_and] at hc
    by_cases h0 : n ≥ 0
    · rw [if_pos h0]
      simp -implicitDefEqProofs only [Option.bind_some]
      by_cases h1 : n ≤ 2147483647
      · rw [if_pos (decide_eq_true h1), hat, if_pos (by omega)]
        left
        exact ⟨⟨hc.1.1, hc.1.2, hc.2.1.1, hc.2.1.2, hc.2.2.1.1, hc.2.2.1.2, hc.2.2.2.1, hc.2.2.2.2, h0, h1⟩, rfl⟩
      · rw [if_neg (by simpa using h1)]
        right; rfl
    · rw [if_neg h0]
      simp -implicitDefEqProofs only [Option.bind_some]
      rw [if_neg (by decide)]
      right; rfl
  · rw [if_neg hc]
    simp -implicitDefEqProofs only [Option.bind_some]
    rw [if_neg (by decide)]
    right; rfl
theorem down_true (k : Nat) (hk : 100 ≤ k) (x4 x5 x6 x8 x10 y0 y1 y2 y3 y4 y5 y6 : Int) : lathelaw14_SchedDown.j0 (k + 1) x4 x5 x6 x8 x10 true y0 y1 y2 y3 y4 y5 y6 = some true := by
  simp only [lathelaw14_SchedDown.j0]
  rw [if_pos trivial, works k (by omega)]
  rfl
theorem mn_le (a b : Int) : mn a b ≤ mx a b := by unfold mn mx; split <;> split <;> omega
theorem SchedDown (a0 a1 p st fr m n : Int) (h0 : (Lit.int .u32 a0).wf = true) (h1 : (Lit.int .u32 a1).wf = true) (h2 : (Lit.int .i64 p).wf = true) (h3 : (Lit.int .i64 st).wf = true) (h4 : (Lit.int .i64 fr).wf = true) (h5 : (Lit.int .i64 m).wf = true) (h6 : (Lit.int .i64 n).wf = true) :
    ∃ k, lathelaw14_SchedDown.f k a0 a1 p st fr m n = some true := by
  obtain ⟨A, rfl, hA⟩ := pat h0
  obtain ⟨B, rfl, hB⟩ := pat h1
  refine ⟨200 + 3, ?_⟩
  have wA : wrap64 (A : Int) = (A : Int) := by unfold wrap64; omega
  have wB : wrap64 (B : Int) = (B : Int) := by unfold wrap64; omega
  have hle := mn_le m n
  have hd := fsub_lt A B
  unfold lathelaw14_SchedDown.f
  simp -implicitDefEqProofs only [Option.bind_some]
  rcases value_of (200 + 1) A B p st fr (mn m n) hA hB with ⟨f1, v1⟩ | v1
  · rcases value_of (200 + 1) A B p st fr (mx m n) hA hB with ⟨f2, v2⟩ | v2
    · rw [v1]
      simp -implicitDefEqProofs only [Option.bind_some]
      rw [v2]
      simp -implicitDefEqProofs only [Option.bind_some]
      rw [wA, wB, Sub_f _ A B hA hB (by omega)]
      simp -implicitDefEqProofs only [Option.bind_some]
      rw [if_pos trivial, if_pos trivial, Finite_f _ hd]
      simp -implicitDefEqProofs only [Option.bind_some]
      by_cases fd : rg (fsub A B) < 2139095040
      · rw [decide_eq_true fd]
        obtain ⟨fA, fB, p1, p2, s1, s2, r1, r2, m1, m2⟩ := f1
        obtain ⟨_, _, _, _, _, _, _, _, n1, n2⟩ := f2
        generalize mn m n = M at *
        generalize mx m n = N at *
        have lM : Atp.lim M st fr = min (max (M - fr) 0) st := by unfold Atp.lim; rw [show wrap64 (M - fr) = M - fr by unfold wrap64; omega]
        have lN : Atp.lim N st fr = min (max (N - fr) 0) st := by unfold Atp.lim; rw [show wrap64 (N - fr) = N - fr by unfold wrap64; omega]
        obtain ⟨q1, q2, q3⟩ := fra_anti (c := Atp.lim M st fr) (d := Atp.lim N st fr) (st := st) (by omega) (by omega) (by omega) s1 s2
        obtain ⟨e1, e2, e3⟩ := fpow_mono p q3 q2 q1
        have hend : N ≥ fr + st → fpow (Atp.fra (Atp.lim N st fr) st) p = 0 := by
          intro h
          rw [show Atp.lim N st fr = st by omega, fra_self s1 s2, fpow_zero p1]
        have hbeg : ¬ M > fr → fpow (Atp.fra (Atp.lim M st fr) st) p = 1065353216 := by
          intro h
          rw [show Atp.lim M st fr = 0 by omega, fra_zero s1 s2, fpow_one]
        generalize fpow (Atp.fra (Atp.lim M st fr) st) p = P at *
        generalize fpow (Atp.fra (Atp.lim N st fr) st) p = Q at *
        have vP : val A B P < 4294967296 := fadd_lt _ _
        have vQ : val A B Q < 4294967296 := fadd_lt _ _
        have gP := val_rg fB fd e3.pos
        have gQ := val_rg fB fd e2.pos
        have wP : wrap64 ((val A B P : Nat) : Int) = ((val A B P : Nat) : Int) := by unfold wrap64; omega
        have wQ : wrap64 ((val A B Q : Nat) : Int) = ((val A B Q : Nat) : Int) := by unfold wrap64; omega
        have hj2 : lathelaw14_SchedDown.j2 (200 + 1) M ((val A B P : Nat) : Int) ((fsub A B : Nat) : Int) false (A : Int) (B : Int) p st fr m n = some true := by
          simp only [lathelaw14_SchedDown.j2]
          rw [if_neg (by decide)]
          by_cases c : M > fr
          · rw [if_pos c, works 200 (by omega)]
            rfl
          · have hm : latheref02_Mul.f 200 ((fsub A B : Nat) : Int) 1065353216 = some ((fmul (fsub A B) 1065353216 : Nat) : Int) := Mul_f 200 (fsub A B) 1065353216 hd (by omega) (by omega)
            rw [if_neg c, hm]
            simp -implicitDefEqProofs only [Option.bind_some]
            rw [wB, Add_f 200 _ B (fmul_lt _ _) hB (by omega)]
            simp -implicitDefEqProofs only [Option.bind_some]
            rw [wP, hbeg c, if_pos (by rfl), works 200 (by omega)]
            rfl
        have hj1 : lathelaw14_SchedDown.j1 (200 + 2) M N ((val A B P : Nat) : Int) ((val A B Q : Nat) : Int) ((fsub A B : Nat) : Int) false (A : Int) (B : Int) p st fr m n = some true := by
          simp only [lathelaw14_SchedDown.j1]
          rw [if_neg (by decide), show wrap64 (fr + st) = fr + st by unfold wrap64; omega]
          by_cases c : N ≥ fr + st
          · rw [if_pos c, wQ, wB, Equal_f _ B vQ hB]
            simp -implicitDefEqProofs only [Option.bind_some]
            have : feq (val A B Q) B = true := by
              rw [feq_num gQ (by omega), hend c, val_end fB fd]
              simp
            rw [this]
            exact hj2
          · rw [if_neg c]
            exact hj2
        show lathelaw14_SchedDown.j0 (200 + 3) M N ((val A B P : Nat) : Int) ((val A B Q : Nat) : Int) ((fsub A B : Nat) : Int) (!true) (A : Int) (B : Int) p st fr m n = some true
        simp only [lathelaw14_SchedDown.j0]
        rw [if_neg (by decide), wA, wB, Less_f _ A B hA hB (by omega)]
        simp -implicitDefEqProofs only [Option.bind_some]
        by_cases up : flt A B = true
        · rw [if_pos up, wQ, wP, Less_f _ _ _ vQ vP (by omega)]
          simp -implicitDefEqProofs only [Option.bind_some]
          have : flt (val A B Q) (val A B P) = false := by
            rw [flt_num (by omega) (by omega), decide_eq_true_eq] at up
            have := val_up hA hB fA fB fd e2.pos e3.pos e1 (by omega)
            rw [flt_num gQ gP, decide_eq_false_iff_not]
            omega
          rw [this]
          exact hj1
        · rw [if_neg up, wQ, wP, Less_f _ _ _ vP vQ (by omega)]
          simp -implicitDefEqProofs only [Option.bind_some]
          have : flt (val A B P) (val A B Q) = false := by
            rw [flt_num (by omega) (by omega), decide_eq_true_eq] at up
            have := val_down hA hB fA fB fd e2.pos e3.pos e1 (by omega)
            rw [flt_num gP gQ, decide_eq_false_iff_not]
            omega
          rw [this, if_neg (by decide)]
          exact hj1
      · rw [decide_eq_false fd]
        exact down_true 202 (by omega) _ _ _ _ _ _ _ _ _ _ _ _
    · rw [v1]
      simp -implicitDefEqProofs only [Option.bind_some]
      rw [v2]
      simp -implicitDefEqProofs only [Option.bind_some]
      rw [wA, wB, Sub_f _ A B hA hB (by omega)]
      simp -implicitDefEqProofs only [Option.bind_some]
      rw [if_pos trivial, if_neg (by decide)]
      exact down_true 202 (by omega) _ _ _ _ _ _ _ _ _ _ _ _
  · rw [v1]
    simp -implicitDefEqProofs only [Option.bind_some]
    obtain ⟨u, hu⟩ : ∃ u, sched_Value.f (200 + 3) 2 [(A : Int), (B : Int)] [p, st, fr] [] (mx m n) = some u := by
      rcases value_of (200 + 1) A B p st fr (mx m n) hA hB with ⟨_, v2⟩ | v2
      · exact ⟨_, v2⟩
      · exact ⟨_, v2⟩
    rw [hu]
    simp -implicitDefEqProofs only [Option.bind_some]
    rw [wA, wB, Sub_f _ A B hA hB (by omega)]
    simp -implicitDefEqProofs only [Option.bind_some]
    rw [if_neg (by decide)]
    exact down_true 202 (by omega) _ _ _ _ _ _ _ _ _ _ _ _
end Go.Proofs.YtmfladkimmnccaaDoor.Pure
