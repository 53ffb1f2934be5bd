/- Schedules as trees: a schedule that may be has a value at every step. No condition. -/
import Derived.Test.YtmfladkimmnccaaDoorStp
set_option linter.unusedVariables false
set_option linter.unusedSimpArgs false
namespace Go.Proofs.YtmfladkimmnccaaDoor.Sto
open Go.RowKit Lathe Go.Proofs.YtmfladkimmnccaaDoorW.PrintWords Go.Proofs.YtmfladkimmnccaaDoorW.PrintMore Go.Proofs.YtmfladkimmnccaaDoor.PW Go.Proofs.YtmfladkimmnccaaDoor.Tre Go.Proofs.YtmfladkimmnccaaDoor.Mag Go.Proofs.YtmfladkimmnccaaDoor.Row
open Go.Proofs.YtmfladkimmnccaaDoor.May (fin)

theorem wf_u32 {y : Int} (h : (Lit.int .u32 y).wf = true) : 0 ≤ y ∧ y < 4294967296 := by
  simp [Lit.wf, IntKind.min, IntKind.max, IntKind.signed, IntKind.bits] at h
  omega
theorem rd_mem {l : List Int} {i : Nat} (h : i < l.length) : rd l (i : Int) ∈ l := by
  unfold rd
  rw [Int.toNat_natCast, List.getD_eq_getElem?_getD, List.getElem?_eq_getElem h]
  exact List.getElem_mem _
theorem at_of {x : T} {n : Int} {k v : Nat} (h : sched_at.f k x.f0 x.f1 x.f2 x.f3 n = some (v : Int)) : AtE x n v := Ev.of (fun k => sched_at.mono x.f0 x.f1 x.f2 x.f3 n k) h
theorem wrap_le (n : Int) : wrap64 n ≤ 9223372036854775807 := by unfold wrap64; omega
/-- What the row says of lengths. -/
theorem has_true {n1 n2 n3 : Nat} {a b : Int} (h : has n1 n2 n3 a b = true) : (n1 : Int) = a ∧ (n2 : Int) = b ∧ n3 = 0 := by
  unfold has at h
  simp only [Bool.and_eq_true, beq_iff_eq] at h
  omega
theorem win_true {n a b : Int} (h : win n a b = true) : a ≤ n ∧ n ≤ b := by
  unfold win at h
  simpa only [Bool.and_eq_true, decide_eq_true_eq] using h
set_option maxHeartbeats 2000000 in
theorem at_ev : ∀ (d : Nat) (x : T), Wf d x → MayE x true → ∀ n : Int, ∃ v : Nat, AtE x n v
  | 0, _, h, _, _ => h.elim
  | d + 1, x, h, hm, n => by
    obtain ⟨_, hl1, hl2, hl3, hw1, hw2, hk⟩ := h
    obtain ⟨hfin, ⟨kr, hr⟩, hkm⟩ := may_true hm
    have kid : ∀ i : Nat, i < x.f3.length → ∀ n : Int, ∃ v : Nat, AtE (rd_T26 x.f3 (i : Int)) n v := by
      intro i hi n
      rw [rd_at]
      exact at_ev d _ (hk _ (mem_at x.f3 z26 hi)) (hkm _ (mem_at x.f3 z26 hi)) n
    unfold rowO at hr
    by_cases c1 : x.f0 = 1
    · rw [if_pos c1] at hr
      obtain ⟨e1, e2, e3⟩ := has_true (Option.some.inj hr)
      have key : ∃ v : Nat, sched_at.f 1 x.f0 x.f1 x.f2 x.f3 n = some (v : Int) := by
        rw [sched_at.f, if_neg (by omega), if_neg (by omega), if_neg (by omega), if_neg (by omega), if_neg (by omega), if_neg (by omega), if_neg (by omega), if_neg (by omega), if_neg (by omega), if_neg (by omega), if_neg (by omega), if_neg (by omega), if_pos (by omega)]
        exact ⟨_, rfl⟩
      obtain ⟨v, hv⟩ := key
      exact ⟨v, at_of hv⟩
    rw [if_neg c1] at hr
    by_cases c2 : x.f0 = 2
    · rw [if_pos c2] at hr
      have hr := Option.some.inj hr
      simp only [Bool.and_eq_true] at hr
      obtain ⟨e1, e2, e3⟩ := has_true hr.1
      have w := win_true hr.2.1
      have key : ∃ v : Nat, sched_at.f 1 x.f0 x.f1 x.f2 x.f3 n = some (v : Int) := by
        obtain ⟨p, hp⟩ := part_p (mn (mx (wrap64 (n - (rd x.f2 2))) 0) (rd x.f2 1)) (rd x.f2 1)
        rw [sched_at.f, if_pos c2, if_pos (by omega), if_pos (by omega), hp]
        unfold float_Sub.f float_Power.f float_Mul.f float_Add.f
        simp -implicitDefEqProofs only [Option.bind_some]
        rw [if_pos (by omega), if_pos (by omega), if_pos (by omega), if_pos (by omega)]
        exact ⟨_, rfl⟩
      obtain ⟨v, hv⟩ := key
      exact ⟨v, at_of hv⟩
    rw [if_neg c2] at hr
    by_cases c3 : x.f0 = 3
    · rw [if_pos c3] at hr
      have hr := Option.some.inj hr
      simp only [Bool.and_eq_true] at hr
      obtain ⟨e1, e2, e3⟩ := has_true hr.1
      have w := win_true hr.2.2.1
      have h0 := (wf_u32 (hw1 _ (rd_mem (l := x.f1) (i := 1) (by omega)))).1
      have key : ∃ v : Nat, sched_at.f 1 x.f0 x.f1 x.f2 x.f3 n = some (v : Int) := by
        have hw := wrap_le ((mx (wrap64 (n - (rd x.f2 1))) 0) / (rd x.f2 0))
        rw [sched_at.f, if_neg c2, if_pos c3, if_pos (by omega), if_pos (by omega), if_neg (by omega), if_pos (by omega), if_pos (by omega)]
        unfold float_Power.f float_Mul.f
        rw [if_pos ⟨h0, hw⟩]
        exact ⟨_, rfl⟩
      obtain ⟨v, hv⟩ := key
      exact ⟨v, at_of hv⟩
    rw [if_neg c3] at hr
    by_cases c4 : x.f0 = 4
    · rw [if_pos c4] at hr
      have hr := Option.some.inj hr
      simp only [Bool.and_eq_true] at hr
      obtain ⟨e1, e2, e3⟩ := has_true hr.1
      have key : ∃ v : Nat, sched_at.f 1 x.f0 x.f1 x.f2 x.f3 n = some (v : Int) := by
        obtain ⟨p, hp⟩ := part_p (mn n (rd x.f2 0)) (rd x.f2 0)
        rw [sched_at.f, if_neg c2, if_neg c3, if_pos c4, if_pos (by omega), if_pos (by omega), if_pos (by omega), hp]
        exact ⟨_, rfl⟩
      obtain ⟨v, hv⟩ := key
      exact ⟨v, at_of hv⟩
    rw [if_neg c4] at hr
    by_cases c5 : x.f0 = 5
    · rw [if_pos c5] at hr
      obtain ⟨b, _, hb⟩ := Option.map_eq_some_iff.1 hr
      simp only [Bool.and_eq_true] at hb
      obtain ⟨e1, e2, e3⟩ := has_true hb.1
      have h0 := (wf_u32 (hw1 _ (rd_mem (l := x.f1) (i := 0) (by omega)))).1
      obtain ⟨v, K, hK⟩ := piece_loop x n hl2 (by omega) x.f2.length 0 (rd x.f1 0).toNat (by omega)
      have a := hK K (Nat.le_refl _)
      dsimp only at a
      refine ⟨v, at_of (k := K + 1) ?_⟩
      rw [sched_at.f, if_neg c2, if_neg c3, if_neg c4, if_pos c5, if_pos (by omega)]
      rw [show (((rd x.f1 0).toNat : Nat) : Int) = rd x.f1 0 from Int.toNat_of_nonneg h0] at a
      exact a
    rw [if_neg c5] at hr
    by_cases c6 : x.f0 = 6
    · rw [if_pos c6] at hr
      obtain ⟨b, _, hb⟩ := Option.map_eq_some_iff.1 hr
      simp only [Bool.and_eq_true, beq_iff_eq, decide_eq_true_eq] at hb
      have hle := kidOf_le x.f2 n x.f2.length
      obtain ⟨v, hv⟩ := kid (kidOf x.f2 n x.f2.length) (by omega) (wrap64 (n - fromOf x.f2 (kidOf x.f2 n x.f2.length)))
      rw [rd_at] at hv
      obtain ⟨K, hK⟩ := join_loop x n hl2 (by omega) v hv x.f2.length 0 (by omega)
      have a := hK K (Nat.le_refl _)
      dsimp only at a
      refine ⟨v, at_of (k := K + 1) ?_⟩
      rw [sched_at.f, if_neg c2, if_neg c3, if_neg c4, if_neg c5, if_pos c6]
      exact a
    rw [if_neg c6] at hr
    by_cases c7 : x.f0 = 7
    · rw [if_pos c7] at hr
      have hr := Option.some.inj hr
      simp only [Bool.and_eq_true] at hr
      obtain ⟨e1, e2, e3⟩ := has_true hr.1
      have key : ∃ v : Nat, sched_at.f 1 x.f0 x.f1 x.f2 x.f3 n = some (v : Int) := by
        obtain ⟨p, hp⟩ := part_p (rd x.f2 0) (mx n (rd x.f2 0))
        rw [sched_at.f, if_neg c2, if_neg c3, if_neg c4, if_neg c5, if_neg c6, if_neg (by omega), if_neg (by omega), if_neg (by omega), if_neg (by omega), if_neg (by omega), if_neg (by omega), if_pos c7, if_pos (by omega), if_pos (by omega), hp]
        exact ⟨_, rfl⟩
      obtain ⟨v, hv⟩ := key
      exact ⟨v, at_of hv⟩
    rw [if_neg c7] at hr
    by_cases c8 : x.f0 = 8 ∨ x.f0 = 9 ∨ x.f0 = 10 ∨ x.f0 = 11
    · rw [if_pos c8] at hr
      have hr := Option.some.inj hr
      simp only [Bool.and_eq_true, beq_iff_eq] at hr
      obtain ⟨v0, K0, h0⟩ := kid 0 (by omega) n
      obtain ⟨v1, K1, h1⟩ := kid 1 (by omega) n
      have a0 : sched_at.f (max K0 K1) (rd_T26 x.f3 0).f0 (rd_T26 x.f3 0).f1 (rd_T26 x.f3 0).f2 (rd_T26 x.f3 0).f3 n = some (v0 : Int) := h0 (max K0 K1) (by omega)
      have a1 : sched_at.f (max K0 K1) (rd_T26 x.f3 1).f0 (rd_T26 x.f3 1).f1 (rd_T26 x.f3 1).f2 (rd_T26 x.f3 1).f3 n = some (v1 : Int) := h1 (max K0 K1) (by omega)
      have key : ∃ v : Nat, sched_at.f (max K0 K1 + 1) x.f0 x.f1 x.f2 x.f3 n = some (v : Int) := by
        rcases c8 with c | c | c | c
        · rw [sched_at.f, if_neg c2, if_neg c3, if_neg c4, if_neg c5, if_neg c6, if_pos c, if_pos (by omega), a0]
          simp only [Option.bind_some]
          rw [if_pos (by omega), a1]
          exact ⟨_, rfl⟩
        · rw [sched_at.f, if_neg c2, if_neg c3, if_neg c4, if_neg c5, if_neg c6, if_neg (by omega), if_pos c, if_pos (by omega), a0]
          simp only [Option.bind_some]
          rw [if_pos (by omega), a1]
          exact ⟨_, rfl⟩
        · rw [sched_at.f, if_neg c2, if_neg c3, if_neg c4, if_neg c5, if_neg c6, if_neg (by omega), if_neg (by omega), if_pos c, if_pos (by omega), a0]
          simp only [Option.bind_some]
          rw [if_pos (by omega), a1]
          exact ⟨_, rfl⟩
        · rw [sched_at.f, if_neg c2, if_neg c3, if_neg c4, if_neg c5, if_neg c6, if_neg (by omega), if_neg (by omega), if_neg (by omega), if_pos c, if_pos (by omega), a0]
          simp only [Option.bind_some]
          rw [if_pos (by omega), a1]
          exact ⟨_, rfl⟩
      obtain ⟨v, hv⟩ := key
      exact ⟨v, at_of hv⟩
    rw [if_neg c8] at hr
    by_cases c12 : x.f0 = 12 ∨ x.f0 = 13
    · rw [if_pos c12] at hr
      have hr := Option.some.inj hr
      simp only [Bool.and_eq_true, beq_iff_eq, decide_eq_true_eq] at hr
      have key : ∃ (v : Nat) (K : Nat), sched_at.f K x.f0 x.f1 x.f2 x.f3 n = some (v : Int) := by
        rcases c12 with c | c
        · obtain ⟨v, K, h0⟩ := kid 0 (by omega) (mx (wrap64 (n - (rd x.f2 0))) 0)
          have a0 : sched_at.f K (rd_T26 x.f3 0).f0 (rd_T26 x.f3 0).f1 (rd_T26 x.f3 0).f2 (rd_T26 x.f3 0).f3 (mx (wrap64 (n - (rd x.f2 0))) 0) = some (v : Int) := h0 K (Nat.le_refl _)
          refine ⟨v, K + 1, ?_⟩
          rw [sched_at.f, if_neg c2, if_neg c3, if_neg c4, if_neg c5, if_neg c6, if_neg (by omega), if_neg (by omega), if_neg (by omega), if_neg (by omega), if_pos c, if_pos (by omega), if_pos (by omega)]
          rw [a0]
          rfl
        · obtain ⟨v, K, h0⟩ := kid 0 (by omega) (mn n (rd x.f2 0))
          have a0 : sched_at.f K (rd_T26 x.f3 0).f0 (rd_T26 x.f3 0).f1 (rd_T26 x.f3 0).f2 (rd_T26 x.f3 0).f3 (mn n (rd x.f2 0)) = some (v : Int) := h0 K (Nat.le_refl _)
          refine ⟨v, K + 1, ?_⟩
          rw [sched_at.f, if_neg c2, if_neg c3, if_neg c4, if_neg c5, if_neg c6, if_neg (by omega), if_neg (by omega), if_neg (by omega), if_neg (by omega), if_neg (by omega), if_pos c, if_pos (by omega), if_pos (by omega)]
          rw [a0]
          rfl
      obtain ⟨v, K, hv⟩ := key
      exact ⟨v, at_of hv⟩
    rw [if_neg c12] at hr
    exact absurd (Option.some.inj hr) (by decide)
end Go.Proofs.YtmfladkimmnccaaDoor.Sto
