/- Schedules as trees: the value of a schedule that may be is a pattern of 32 bits. No condition. -/
import Derived.Test.YtmfladkimmnccaaDoorStq
import Derived.Test.YtmfladkimmnccaaDoorFpd
set_option linter.unusedVariables false
set_option linter.unusedSimpArgs false
namespace Go.Proofs.YtmfladkimmnccaaDoor.Sto
open Go.RowKit Lathe Go.Proofs.YtmfladkimmnccaaDoorW.PrintWords Go.Proofs.YtmfladkimmnccaaDoorW.PrintMore Go.Proofs.YtmfladkimmnccaaDoor.PW Go.Proofs.YtmfladkimmnccaaDoor.Tre Go.Proofs.YtmfladkimmnccaaDoor.Mag Go.Proofs.YtmfladkimmnccaaDoor.Row
open Go.Proofs.YtmfladkimmnccaaDoor.May (fin)

theorem write_lt (d : Ieee.Datum) : Ieee.single.write d < 4294967296 := Ieee.Format.write_lt Ieee.single d
theorem res_lt {o : Option Ieee.Datum} : res (o.map Ieee.single.write) < 4294967296 := by
  cases o with
  | none => show (2143289344 : Nat) < 4294967296; omega
  | some d => exact write_lt d
theorem fadd_lt (a b : Nat) : fadd a b < 4294967296 := res_lt
theorem fsub_lt (a b : Nat) : fsub a b < 4294967296 := res_lt
theorem fmul_lt (a b : Nat) : fmul a b < 4294967296 := res_lt
theorem fmin_lt {a b : Nat} (ha : a < 4294967296) (hb : b < 4294967296) : fmin a b < 4294967296 := by
  by_cases h : 2139095040 < rg a ∨ 2139095040 < rg b
  · rw [fmin_nan h]; omega
  · rw [fmin_num (by omega) (by omega) ha hb]
    split <;> assumption
theorem fmax_lt {a b : Nat} (ha : a < 4294967296) (hb : b < 4294967296) : fmax a b < 4294967296 := by
  by_cases h : 2139095040 < rg a ∨ 2139095040 < rg b
  · rw [fmax_nan h]; omega
  · rw [fmax_num (by omega) (by omega) ha hb]
    split <;> assumption
theorem tl_lt {a : Nat} (h : a < 4294967296) : tl a < 4294967296 := by
  unfold tl
  split <;> omega
theorem fsel_lt {a b : Nat} (c : Nat) (ha : a < 4294967296) (hb : b < 4294967296) : fsel c a b < 4294967296 := by
  unfold fsel
  split
  · exact tl_lt ha
  · exact tl_lt hb
theorem piece_lt (x : T) (n : Int) (hl : x.f2.length ≤ 17592186043904) (h1 : x.f1.length = x.f2.length + 1) :
    ∀ (m i : Nat) (s : Nat), i + m = x.f2.length → s < 4294967296 → ∃ v : Nat, v < 4294967296 ∧ Ev (fun k => sched_at.l0 k n (s : Int) x.f2 (x.f2.length : Int) (i : Int) x.f0 x.f1 x.f2 x.f3) (v : Int)
  | 0, i, s, h, hs => ⟨s, hs, 1, fun k hk => by
    obtain ⟨k, rfl⟩ : ∃ j, k = j + 1 := ⟨k - 1, by omega⟩
    dsimp only
    rw [sched_at.l0, if_neg (by omega)]⟩
  | m + 1, i, s, h, hs => by
    by_cases c : rd x.f2 (i : Int) ≤ n
    · obtain ⟨v, hlt, K, hK⟩ := piece_lt x n hl h1 m (i + 1) (fmul (s : Int).toNat (rd x.f1 ((i + 1 : Nat) : Int)).toNat) (by omega) (fmul_lt _ _)
      refine ⟨v, hlt, K + 1, fun k hk => ?_⟩
      obtain ⟨k, rfl⟩ : ∃ j, k = j + 1 := ⟨k - 1, by omega⟩
      have a := hK k (by omega)
      dsimp only at a ⊢
      rw [sched_at.l0, if_pos (by omega), if_pos (by omega), if_pos (by omega), if_pos c, w64 (by omega) (by omega), show (i : Int) + 1 = ((i + 1 : Nat) : Int) by omega, if_pos (by omega), if_pos (by omega)]
      unfold float_Mul.f
      simp -implicitDefEqProofs only [Option.bind_some]
      exact a
    · obtain ⟨v, hlt, K, hK⟩ := piece_lt x n hl h1 m (i + 1) s (by omega) hs
      refine ⟨v, hlt, K + 1, fun k hk => ?_⟩
      obtain ⟨k, rfl⟩ : ∃ j, k = j + 1 := ⟨k - 1, by omega⟩
      have a := hK k (by omega)
      dsimp only at a ⊢
      rw [sched_at.l0, if_pos (by omega), if_pos (by omega), if_pos (by omega), if_neg c, w64 (by omega) (by omega), show (i : Int) + 1 = ((i + 1 : Nat) : Int) by omega]
      exact a
set_option maxHeartbeats 2000000 in
theorem at_lt : ∀ (d : Nat) (x : T), Wf d x → MayE x true → ∀ n : Int, ∃ v : Nat, v < 4294967296 ∧ AtE x n v
  | 0, _, h, _, _ => h.elim
  | d + 1, x, h, hm, n => by
    obtain ⟨_, hl1, hl2, hl3, hw1, hw2, hk⟩ := h
    obtain ⟨hfin, ⟨kr, hr⟩, hkm⟩ := may_true hm
    have kid : ∀ i : Nat, i < x.f3.length → ∀ n : Int, ∃ v : Nat, v < 4294967296 ∧ AtE (rd_T26 x.f3 (i : Int)) n v := by
      intro i hi n
      rw [rd_at]
      exact at_lt d _ (hk _ (mem_at x.f3 z26 hi)) (hkm _ (mem_at x.f3 z26 hi)) n
    unfold rowO at hr
    by_cases c1 : x.f0 = 1
    · rw [if_pos c1] at hr
      obtain ⟨e1, e2, e3⟩ := has_true (Option.some.inj hr)
      have hs0 := wf_u32 (hw1 _ (rd_mem (l := x.f1) (i := 0) (by omega)))
      have hs1 : (rd x.f1 0).toNat < 4294967296 := by simp only [Int.natCast_zero] at hs0; omega
      have hsel := fsel_lt (a := (rd x.f1 0).toNat) (b := (rd x.f1 0).toNat) (1065353216 : Int).toNat hs1 hs1
      have key : ∃ v : Nat, v < 4294967296 ∧ sched_at.f 1 x.f0 x.f1 x.f2 x.f3 n = some (v : Int) := by
        rw [sched_at.f, if_neg (by omega), if_neg (by omega), if_neg (by omega), if_neg (by omega), if_neg (by omega), if_neg (by omega), if_neg (by omega), if_neg (by omega), if_neg (by omega), if_neg (by omega), if_neg (by omega), if_neg (by omega), if_pos (by omega)]
        exact ⟨_, (by first | exact fadd_lt _ _ | exact fmul_lt _ _ | exact fsub_lt _ _ | exact fmin_lt ha0 ha1 | exact fmax_lt ha0 ha1 | exact hsel), rfl⟩
      obtain ⟨v, hlt, hv⟩ := key
      exact ⟨v, hlt, at_of hv⟩
    rw [if_neg c1] at hr
    by_cases c2 : x.f0 = 2
    · rw [if_pos c2] at hr
      have hr := Option.some.inj hr
      simp only [Bool.and_eq_true] at hr
      obtain ⟨e1, e2, e3⟩ := has_true hr.1
      have w := win_true hr.2.1
      have key : ∃ v : Nat, v < 4294967296 ∧ sched_at.f 1 x.f0 x.f1 x.f2 x.f3 n = some (v : Int) := by
        obtain ⟨p, hp⟩ := part_p (mn (mx (wrap64 (n - (rd x.f2 2))) 0) (rd x.f2 1)) (rd x.f2 1)
        rw [sched_at.f, if_pos c2, if_pos (by omega), if_pos (by omega), hp]
        unfold float_Sub.f float_Power.f float_Mul.f float_Add.f
        simp -implicitDefEqProofs only [Option.bind_some]
        rw [if_pos (by omega), if_pos (by omega), if_pos (by omega), if_pos (by omega)]
        exact ⟨_, (by first | exact fadd_lt _ _ | exact fmul_lt _ _ | exact fsub_lt _ _ | exact fmin_lt ha0 ha1 | exact fmax_lt ha0 ha1 | exact hsel), rfl⟩
      obtain ⟨v, hlt, hv⟩ := key
      exact ⟨v, hlt, at_of hv⟩
    rw [if_neg c2] at hr
    by_cases c3 : x.f0 = 3
    · rw [if_pos c3] at hr
      have hr := Option.some.inj hr
      simp only [Bool.and_eq_true] at hr
      obtain ⟨e1, e2, e3⟩ := has_true hr.1
      have w := win_true hr.2.2.1
      have h0 := (wf_u32 (hw1 _ (rd_mem (l := x.f1) (i := 1) (by omega)))).1
      have key : ∃ v : Nat, v < 4294967296 ∧ sched_at.f 1 x.f0 x.f1 x.f2 x.f3 n = some (v : Int) := by
        have hw := wrap_le ((mx (wrap64 (n - (rd x.f2 1))) 0) / (rd x.f2 0))
        rw [sched_at.f, if_neg c2, if_pos c3, if_pos (by omega), if_pos (by omega), if_neg (by omega), if_pos (by omega), if_pos (by omega)]
        unfold float_Power.f float_Mul.f
        rw [if_pos ⟨h0, hw⟩]
        exact ⟨_, (by first | exact fadd_lt _ _ | exact fmul_lt _ _ | exact fsub_lt _ _ | exact fmin_lt ha0 ha1 | exact fmax_lt ha0 ha1 | exact hsel), rfl⟩
      obtain ⟨v, hlt, hv⟩ := key
      exact ⟨v, hlt, at_of hv⟩
    rw [if_neg c3] at hr
    by_cases c4 : x.f0 = 4
    · rw [if_pos c4] at hr
      have hr := Option.some.inj hr
      simp only [Bool.and_eq_true] at hr
      obtain ⟨e1, e2, e3⟩ := has_true hr.1
      have key : ∃ v : Nat, v < 4294967296 ∧ sched_at.f 1 x.f0 x.f1 x.f2 x.f3 n = some (v : Int) := by
        obtain ⟨p, hp⟩ := part_p (mn n (rd x.f2 0)) (rd x.f2 0)
        rw [sched_at.f, if_neg c2, if_neg c3, if_pos c4, if_pos (by omega), if_pos (by omega), if_pos (by omega), hp]
        exact ⟨_, (by first | exact fadd_lt _ _ | exact fmul_lt _ _ | exact fsub_lt _ _ | exact fmin_lt ha0 ha1 | exact fmax_lt ha0 ha1 | exact hsel), rfl⟩
      obtain ⟨v, hlt, hv⟩ := key
      exact ⟨v, hlt, at_of hv⟩
    rw [if_neg c4] at hr
    by_cases c5 : x.f0 = 5
    · rw [if_pos c5] at hr
      obtain ⟨b, _, hb⟩ := Option.map_eq_some_iff.1 hr
      simp only [Bool.and_eq_true] at hb
      obtain ⟨e1, e2, e3⟩ := has_true hb.1
      have h0 := (wf_u32 (hw1 _ (rd_mem (l := x.f1) (i := 0) (by omega)))).1
      have hb0 := (wf_u32 (hw1 _ (rd_mem (l := x.f1) (i := 0) (by omega)))).2
      obtain ⟨v, hlt, K, hK⟩ := piece_lt x n hl2 (by omega) x.f2.length 0 (rd x.f1 0).toNat (by omega) (by simp only [Int.natCast_zero] at *; omega)
      have a := hK K (Nat.le_refl _)
      dsimp only at a
      refine ⟨v, hlt, at_of (k := K + 1) ?_⟩
      rw [sched_at.f, if_neg c2, if_neg c3, if_neg c4, if_pos c5, if_pos (by omega)]
      rw [show (((rd x.f1 0).toNat : Nat) : Int) = rd x.f1 0 from Int.toNat_of_nonneg h0] at a
      exact a
    rw [if_neg c5] at hr
    by_cases c6 : x.f0 = 6
    · rw [if_pos c6] at hr
      obtain ⟨b, _, hb⟩ := Option.map_eq_some_iff.1 hr
      simp only [Bool.and_eq_true, beq_iff_eq, decide_eq_true_eq] at hb
      have hle := kidOf_le x.f2 n x.f2.length
      obtain ⟨v, hlt, hv⟩ := kid (kidOf x.f2 n x.f2.length) (by omega) (wrap64 (n - fromOf x.f2 (kidOf x.f2 n x.f2.length)))
      rw [rd_at] at hv
      obtain ⟨K, hK⟩ := join_loop x n hl2 (by omega) v hv x.f2.length 0 (by omega)
      have a := hK K (Nat.le_refl _)
      dsimp only at a
      refine ⟨v, hlt, at_of (k := K + 1) ?_⟩
      rw [sched_at.f, if_neg c2, if_neg c3, if_neg c4, if_neg c5, if_pos c6]
      exact a
    rw [if_neg c6] at hr
    by_cases c7 : x.f0 = 7
    · rw [if_pos c7] at hr
      have hr := Option.some.inj hr
      simp only [Bool.and_eq_true] at hr
      obtain ⟨e1, e2, e3⟩ := has_true hr.1
      have key : ∃ v : Nat, v < 4294967296 ∧ sched_at.f 1 x.f0 x.f1 x.f2 x.f3 n = some (v : Int) := by
        obtain ⟨p, hp⟩ := part_p (rd x.f2 0) (mx n (rd x.f2 0))
        rw [sched_at.f, if_neg c2, if_neg c3, if_neg c4, if_neg c5, if_neg c6, if_neg (by omega), if_neg (by omega), if_neg (by omega), if_neg (by omega), if_neg (by omega), if_neg (by omega), if_pos c7, if_pos (by omega), if_pos (by omega), hp]
        exact ⟨_, (by first | exact fadd_lt _ _ | exact fmul_lt _ _ | exact fsub_lt _ _ | exact fmin_lt ha0 ha1 | exact fmax_lt ha0 ha1 | exact hsel), rfl⟩
      obtain ⟨v, hlt, hv⟩ := key
      exact ⟨v, hlt, at_of hv⟩
    rw [if_neg c7] at hr
    by_cases c8 : x.f0 = 8 ∨ x.f0 = 9 ∨ x.f0 = 10 ∨ x.f0 = 11
    · rw [if_pos c8] at hr
      have hr := Option.some.inj hr
      simp only [Bool.and_eq_true, beq_iff_eq] at hr
      obtain ⟨v0, ha0, K0, h0⟩ := kid 0 (by omega) n
      obtain ⟨v1, ha1, K1, h1⟩ := kid 1 (by omega) n
      have a0 : sched_at.f (max K0 K1) (rd_T26 x.f3 0).f0 (rd_T26 x.f3 0).f1 (rd_T26 x.f3 0).f2 (rd_T26 x.f3 0).f3 n = some (v0 : Int) := h0 (max K0 K1) (by omega)
      have a1 : sched_at.f (max K0 K1) (rd_T26 x.f3 1).f0 (rd_T26 x.f3 1).f1 (rd_T26 x.f3 1).f2 (rd_T26 x.f3 1).f3 n = some (v1 : Int) := h1 (max K0 K1) (by omega)
      have key : ∃ v : Nat, v < 4294967296 ∧ sched_at.f (max K0 K1 + 1) x.f0 x.f1 x.f2 x.f3 n = some (v : Int) := by
        rcases c8 with c | c | c | c
        · rw [sched_at.f, if_neg c2, if_neg c3, if_neg c4, if_neg c5, if_neg c6, if_pos c, if_pos (by omega), a0]
          simp only [Option.bind_some]
          rw [if_pos (by omega), a1]
          exact ⟨_, (by first | exact fadd_lt _ _ | exact fmul_lt _ _ | exact fsub_lt _ _ | exact fmin_lt ha0 ha1 | exact fmax_lt ha0 ha1 | exact hsel), rfl⟩
        · rw [sched_at.f, if_neg c2, if_neg c3, if_neg c4, if_neg c5, if_neg c6, if_neg (by omega), if_pos c, if_pos (by omega), a0]
          simp only [Option.bind_some]
          rw [if_pos (by omega), a1]
          exact ⟨_, (by first | exact fadd_lt _ _ | exact fmul_lt _ _ | exact fsub_lt _ _ | exact fmin_lt ha0 ha1 | exact fmax_lt ha0 ha1 | exact hsel), rfl⟩
        · rw [sched_at.f, if_neg c2, if_neg c3, if_neg c4, if_neg c5, if_neg c6, if_neg (by omega), if_neg (by omega), if_pos c, if_pos (by omega), a0]
          simp only [Option.bind_some]
          rw [if_pos (by omega), a1]
          exact ⟨_, (by first | exact fadd_lt _ _ | exact fmul_lt _ _ | exact fsub_lt _ _ | exact fmin_lt ha0 ha1 | exact fmax_lt ha0 ha1 | exact hsel), rfl⟩
        · rw [sched_at.f, if_neg c2, if_neg c3, if_neg c4, if_neg c5, if_neg c6, if_neg (by omega), if_neg (by omega), if_neg (by omega), if_pos c, if_pos (by omega), a0]
          simp only [Option.bind_some]
          rw [if_pos (by omega), a1]
          exact ⟨_, (by first | exact fadd_lt _ _ | exact fmul_lt _ _ | exact fsub_lt _ _ | exact fmin_lt ha0 ha1 | exact fmax_lt ha0 ha1 | exact hsel), rfl⟩
      obtain ⟨v, hlt, hv⟩ := key
      exact ⟨v, hlt, at_of hv⟩
    rw [if_neg c8] at hr
    by_cases c12 : x.f0 = 12 ∨ x.f0 = 13
    · rw [if_pos c12] at hr
      have hr := Option.some.inj hr
      simp only [Bool.and_eq_true, beq_iff_eq, decide_eq_true_eq] at hr
      have key : ∃ (v : Nat) (K : Nat), v < 4294967296 ∧ sched_at.f K x.f0 x.f1 x.f2 x.f3 n = some (v : Int) := by
        rcases c12 with c | c
        · obtain ⟨v, hlt, K, h0⟩ := kid 0 (by omega) (mx (wrap64 (n - (rd x.f2 0))) 0)
          have a0 : sched_at.f K (rd_T26 x.f3 0).f0 (rd_T26 x.f3 0).f1 (rd_T26 x.f3 0).f2 (rd_T26 x.f3 0).f3 (mx (wrap64 (n - (rd x.f2 0))) 0) = some (v : Int) := h0 K (Nat.le_refl _)
          refine ⟨v, K + 1, hlt, ?_⟩
          rw [sched_at.f, if_neg c2, if_neg c3, if_neg c4, if_neg c5, if_neg c6, if_neg (by omega), if_neg (by omega), if_neg (by omega), if_neg (by omega), if_pos c, if_pos (by omega), if_pos (by omega)]
          rw [a0]
          rfl
        · obtain ⟨v, hlt, K, h0⟩ := kid 0 (by omega) (mn n (rd x.f2 0))
          have a0 : sched_at.f K (rd_T26 x.f3 0).f0 (rd_T26 x.f3 0).f1 (rd_T26 x.f3 0).f2 (rd_T26 x.f3 0).f3 (mn n (rd x.f2 0)) = some (v : Int) := h0 K (Nat.le_refl _)
          refine ⟨v, K + 1, hlt, ?_⟩
          rw [sched_at.f, if_neg c2, if_neg c3, if_neg c4, if_neg c5, if_neg c6, if_neg (by omega), if_neg (by omega), if_neg (by omega), if_neg (by omega), if_neg (by omega), if_pos c, if_pos (by omega), if_pos (by omega)]
          rw [a0]
          rfl
      obtain ⟨v, K, hlt, hv⟩ := key
      exact ⟨v, hlt, at_of hv⟩
    rw [if_neg c12] at hr
    exact absurd (Option.some.inj hr) (by decide)
end Go.Proofs.YtmfladkimmnccaaDoor.Sto
