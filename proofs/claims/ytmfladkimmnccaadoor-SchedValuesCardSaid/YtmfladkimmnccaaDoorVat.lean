/- Schedules as trees: the value by the reference is the program's value, at every schedule that may be. No condition. -/
import Derived.Test.YtmfladkimmnccaaDoorStq
import Derived.Test.YtmfladkimmnccaaDoorSwa
import Derived.Test.YtmfladkimmnccaaDoorRlf
import Derived.Test.YtmfladkimmnccaaDoorPVx14
import Derived.Test.YtmfladkimmnccaaDoorPVx19
set_option linter.unusedVariables false
set_option linter.unusedSimpArgs false
namespace Go.Proofs.YtmfladkimmnccaaDoor.Sto
open Go.RowKit Lathe Go.Proofs.YtmfladkimmnccaaDoorW.PrintWords Go.Proofs.YtmfladkimmnccaaDoorW.PrintMore Go.Proofs.YtmfladkimmnccaaDoor.PW Go.Proofs.YtmfladkimmnccaaDoor.Tre Go.Proofs.YtmfladkimmnccaaDoor.Mag Go.Proofs.YtmfladkimmnccaaDoor.Row
open Go.Proofs.YtmfladkimmnccaaDoor.May (fin)
open Go.Proofs.YtmfladkimmnccaaDoor.Rlb (Mul_f)
open Go.Proofs.YtmfladkimmnccaaDoor.Rlc (Add_f Sub_f FromInt_f fint_num)
open Go.Proofs.YtmfladkimmnccaaDoor.Rld (Div_f Sqrt_f)
open Go.Proofs.YtmfladkimmnccaaDoor.Rle (Min_f Max_f fmin_lt fmax_lt)
open Go.Proofs.YtmfladkimmnccaaDoor.Rlf (Power_f fpow_lt)
open Go.Proofs.YtmfladkimmnccaaDoor.Swv (fadd_lt fsub_lt fmul_lt Wave_f wv_lt)

abbrev RatE (x : T) (n : Int) (v : Nat) : Prop := Ev (fun k => latheref14_at.f k x.f0 x.f1 x.f2 x.f3 n) (v : Int)
theorem fint_lt (n : Int) : fint n < 4294967296 := Swv.write_lt _
theorem fdiv_lt (a b : Nat) : fdiv a b < 4294967296 := Swv.res_lt
theorem fsqrt_lt (a : Nat) : fsqrt a < 4294967296 := Swv.res_lt
theorem rd_pat {l : List Int} (hw : ∀ y ∈ l, (Lit.int .u32 y).wf = true) {i : Nat} (h : i < l.length) : ∃ p : Nat, rd l (i : Int) = (p : Int) ∧ p < 4294967296 := by
  have := wf_u32 (hw _ (rd_mem h))
  exact ⟨(rd l (i : Int)).toNat, by omega, by omega⟩
theorem wrap_ge (n : Int) : -9223372036854775808 ≤ wrap64 n := by unfold wrap64; omega
theorem part_eq (a b : Int) : sched_part.f a b = some ((fdiv (fint a) (fint b) : Nat) : Int) := by
  unfold sched_part.f float_FromInt.f float_Div.f
  simp -implicitDefEqProofs only [Option.bind_some, Int.toNat_natCast, fint_num]
/-- The reference first makes a row of the numbers. -/
theorem rat_loop (x : T) (n : Int) (hw : ∀ y ∈ x.f1, (Lit.int .u32 y).wf = true) (hl : x.f1.length ≤ 17592186044415) (k : Nat) : ∀ (m i : Nat), i + m = x.f1.length →
    latheref14_at.l0 (k + m) n (x.f1.take i) (i : Int) x.f0 x.f1 x.f2 x.f3 = latheref14_at.l0 k n x.f1 (x.f1.length : Int) x.f0 x.f1 x.f2 x.f3
  | 0, i, h => by rw [show i = x.f1.length by omega, List.take_length, Nat.add_zero]
  | m + 1, i, h => by
    have hi : i < x.f1.length := by omega
    obtain ⟨p, hp, hp2⟩ := rd_pat hw hi
    have e : x.f1.take i ++ [wrap64 (rd x.f1 (i : Int))] = x.f1.take (i + 1) := by
      rw [w64 (by omega) (by omega), List.take_add_one, List.getElem?_eq_getElem hi]
      unfold rd
      rw [Int.toNat_natCast, List.getD_eq_getElem?_getD, List.getElem?_eq_getElem hi]
      rfl
    rw [show k + (m + 1) = (k + m) + 1 by omega, latheref14_at.l0, if_pos (by omega), if_pos (by omega), if_pos (by rw [List.length_take]; omega), e, w64 (by omega) (by omega), show (i : Int) + 1 = ((i + 1 : Nat) : Int) by omega]
    exact rat_loop x n hw hl k m (i + 1) (by omega)
theorem rat_of {x : T} {n : Int} (hw : ∀ y ∈ x.f1, (Lit.int .u32 y).wf = true) (hl : x.f1.length ≤ 17592186044415) {k v : Nat} (h : latheref14_at.l0 k n x.f1 (x.f1.length : Int) x.f0 x.f1 x.f2 x.f3 = some (v : Int)) : RatE x n v := by
  refine Ev.of (fun k => latheref14_at.mono _ _ _ _ _ k) (k := (k + x.f1.length) + 1) ?_
  show latheref14_at.f ((k + x.f1.length) + 1) x.f0 x.f1 x.f2 x.f3 n = _
  rw [latheref14_at.f]
  have := rat_loop x n hw hl k x.f1.length 0 (by omega)
  rw [List.take_zero] at this
  exact this.trans h
theorem rjoin_loop (x : T) (n : Int) (hl : x.f2.length ≤ 17592186043904) (h3 : x.f3.length = x.f2.length + 1) (v : Nat)
    (hv : RatE (x.f3.getD (kidOf x.f2 n x.f2.length) z26) (wrap64 (n - fromOf x.f2 (kidOf x.f2 n x.f2.length))) v) :
    ∀ m i : Nat, i + m = x.f2.length → Ev (fun k => latheref14_at.l2 k n (kidOf x.f2 n i : Int) (fromOf x.f2 (kidOf x.f2 n i)) (i : Int) x.f0 x.f1 x.f2 x.f3) (v : Int)
  | 0, i, h => by
    have hi : i = x.f2.length := by omega
    subst hi
    obtain ⟨K, h1⟩ := hv
    refine ⟨K + 1, fun k hk => ?_⟩
    obtain ⟨k, rfl⟩ : ∃ j, k = j + 1 := ⟨k - 1, by omega⟩
    have a := h1 k (by omega)
    have := kidOf_le x.f2 n x.f2.length
    dsimp only at a ⊢
    rw [latheref14_at.l2, if_neg (by omega), if_pos (by omega), if_pos (by omega), rd_at, a]
    rfl
  | m + 1, i, h => by
    obtain ⟨K, h1⟩ := rjoin_loop x n hl h3 v hv m (i + 1) (by omega)
    refine ⟨K + 1, fun k hk => ?_⟩
    obtain ⟨k, rfl⟩ : ∃ j, k = j + 1 := ⟨k - 1, by omega⟩
    have a := h1 k (by omega)
    dsimp only at a ⊢
    rw [latheref14_at.l2, if_pos (by omega), if_pos (by omega)]
    rw [w64 (by omega) (by omega), show (i : Int) + 1 = ((i + 1 : Nat) : Int) by omega]
    by_cases c : rd x.f2 (i : Int) ≤ n
    · rw [if_pos c]
      have e : kidOf x.f2 n (i + 1) = i + 1 := by rw [kidOf, if_pos c]
      rw [e] at a
      have e2 : fromOf x.f2 (i + 1) = rd x.f2 (i : Int) := by unfold fromOf; rw [if_neg (by omega)]; rfl
      rw [e2] at a
      exact a
    · rw [if_neg c]
      have e : kidOf x.f2 n (i + 1) = kidOf x.f2 n i := by rw [kidOf, if_neg c]
      rw [e] at a
      exact a
theorem pieces (x : T) (n : Int) (hw : ∀ y ∈ x.f1, (Lit.int .u32 y).wf = true) (hl : x.f2.length ≤ 17592186043904) (h1 : x.f1.length = x.f2.length + 1) :
    ∀ (m i : Nat) (s : Nat), i + m = x.f2.length → s < 4294967296 → ∃ v : Nat, v < 4294967296 ∧ Ev (fun k => sched_at.l0 k n (s : Int) x.f2 (x.f2.length : Int) (i : Int) x.f0 x.f1 x.f2 x.f3) (v : Int) ∧ Ev (fun k => latheref14_at.l1 k n x.f1 (s : Int) (i : Int) x.f0 x.f1 x.f2 x.f3) (v : Int)
  | 0, i, s, h, hs => ⟨s, hs, ⟨1, fun k hk => by
      obtain ⟨k, rfl⟩ : ∃ j, k = j + 1 := ⟨k - 1, by omega⟩
      dsimp only
      rw [sched_at.l0, if_neg (by omega)]⟩, ⟨1, fun k hk => by
      obtain ⟨k, rfl⟩ : ∃ j, k = j + 1 := ⟨k - 1, by omega⟩
      dsimp only
      rw [latheref14_at.l1, if_neg (by omega)]⟩⟩
  | m + 1, i, s, h, hs => by
    obtain ⟨p, hp, hp2⟩ := rd_pat hw (i := i + 1) (by omega)
    by_cases c : rd x.f2 (i : Int) ≤ n
    · obtain ⟨v, hv, ⟨K, hK⟩, ⟨K2, hK2⟩⟩ := pieces x n hw hl h1 m (i + 1) (fmul s p) (by omega) (fmul_lt _ _)
      refine ⟨v, hv, ⟨K + 1, fun k hk => ?_⟩, ⟨K2 + 81, fun k hk => ?_⟩⟩
      · obtain ⟨k, rfl⟩ : ∃ j, k = j + 1 := ⟨k - 1, by omega⟩
        have a := hK k (by omega)
        dsimp only at a ⊢
        rw [sched_at.l0, if_pos (by omega), if_pos (by omega), if_pos (by omega), if_pos c, w64 (by omega) (by omega), show (i : Int) + 1 = ((i + 1 : Nat) : Int) by omega, if_pos (by omega), if_pos (by omega), hp]
        unfold float_Mul.f
        simp -implicitDefEqProofs only [Option.bind_some, Int.toNat_natCast]
        exact a
      · obtain ⟨k, rfl⟩ : ∃ j, k = j + 1 := ⟨k - 1, by omega⟩
        have a := hK2 k (by omega)
        dsimp only at a ⊢
        rw [latheref14_at.l1, if_pos (by omega), if_pos (by omega), if_pos c, w64 (by omega) (by omega), show (i : Int) + 1 = ((i + 1 : Nat) : Int) by omega, if_pos (by omega), if_pos (by omega), hp, Mul_f k s p hs hp2 (by omega), Option.bind_some]
        exact a
    · obtain ⟨v, hv, ⟨K, hK⟩, ⟨K2, hK2⟩⟩ := pieces x n hw hl h1 m (i + 1) s (by omega) hs
      refine ⟨v, hv, ⟨K + 1, fun k hk => ?_⟩, ⟨K2 + 1, fun k hk => ?_⟩⟩
      · obtain ⟨k, rfl⟩ : ∃ j, k = j + 1 := ⟨k - 1, by omega⟩
        have a := hK k (by omega)
        dsimp only at a ⊢
        rw [sched_at.l0, if_pos (by omega), if_pos (by omega), if_pos (by omega), if_neg c, w64 (by omega) (by omega), show (i : Int) + 1 = ((i + 1 : Nat) : Int) by omega]
        exact a
      · obtain ⟨k, rfl⟩ : ∃ j, k = j + 1 := ⟨k - 1, by omega⟩
        have a := hK2 k (by omega)
        dsimp only at a ⊢
        rw [latheref14_at.l1, if_pos (by omega), if_pos (by omega), if_neg c, w64 (by omega) (by omega), show (i : Int) + 1 = ((i + 1 : Nat) : Int) by omega]
        exact a
theorem fin_eq (a : Nat) (ha : a < 4294967296) : fin (a : Int) = decide (rg a < 2139095040) := by
  unfold May.fin
  have hr := rg_lt a
  have e : Go.bits .and .u32 (a : Int) 2139095040 = ((rg a / 8388608 * 8388608 : Nat) : Int) := by
    have := u32_and_nat a 2139095040 ha (by omega)
    rw [Rle.and_exp] at this
    exact this
  rw [e]
  by_cases c : rg a < 2139095040
  · rw [decide_eq_true c, bne_iff_ne]
    omega
  · rw [decide_eq_false c, bne_eq_false_iff_eq]
    omega
theorem tl_fin {p : Nat} (h : fin (p : Int) = true) (hp : p < 4294967296) : tl p = p := by
  rw [fin_eq p hp] at h
  have := of_decide_eq_true h
  exact tl_num (by omega)
set_option maxHeartbeats 4000000 in
theorem at_both : ∀ (d : Nat) (x : T), Wf d x → MayE x true → ∀ n : Int, -9223372036854775808 ≤ n → n ≤ 9223372036854775807 → ∃ v : Nat, v < 4294967296 ∧ AtE x n v ∧ RatE x n v
  | 0, _, h, _, _, _, _ => h.elim
  | d + 1, x, h, hm, n, n0, n1 => by
    obtain ⟨_, hl1, hl2, hl3, hw1, hw2, hk⟩ := h
    obtain ⟨hfin, ⟨kr, hr⟩, hkm⟩ := may_true hm
    have kid : ∀ i : Nat, i < x.f3.length → ∀ n : Int, -9223372036854775808 ≤ n → n ≤ 9223372036854775807 → ∃ v : Nat, v < 4294967296 ∧ AtE (rd_T26 x.f3 (i : Int)) n v ∧ RatE (rd_T26 x.f3 (i : Int)) n v := by
      intro i hi n n0 n1
      rw [rd_at]
      exact at_both d _ (hk _ (mem_at x.f3 z26 hi)) (hkm _ (mem_at x.f3 z26 hi)) n n0 n1
    unfold rowO at hr
    by_cases c1 : x.f0 = 1
    · rw [if_pos c1] at hr
      obtain ⟨e1, e2, e3⟩ := has_true (Option.some.inj hr)
      obtain ⟨p, hp, hp2⟩ := rd_pat hw1 (i := 0) (by omega)
      have hp : rd x.f1 0 = (p : Int) := hp
      have hpf : tl p = p := tl_fin (by rw [← hp]; exact List.all_eq_true.1 hfin _ (rd_mem (i := 0) (by omega))) hp2
      have key : sched_at.f 1 x.f0 x.f1 x.f2 x.f3 n = some (p : Int) := by
        rw [sched_at.f, if_neg (by omega), if_neg (by omega), if_neg (by omega), if_neg (by omega), if_neg (by omega), if_neg (by omega), if_neg (by omega), if_neg (by omega), if_neg (by omega), if_neg (by omega), if_neg (by omega), if_neg (by omega), if_pos (by omega), hp]
        unfold float_Select.f
        simp -implicitDefEqProofs only [Option.bind_some, Int.toNat_natCast]
        unfold fsel
        rw [hpf, ite_self]
      refine ⟨p, hp2, at_of key, rat_of hw1 (by omega) (k := 1) ?_⟩
      rw [latheref14_at.l0, if_neg (by omega), if_pos c1, if_pos (by omega), hp]
    rw [if_neg c1] at hr
    by_cases c2 : x.f0 = 2
    · rw [if_pos c2] at hr
      have hr := Option.some.inj hr
      simp only [Bool.and_eq_true] at hr
      obtain ⟨e1, e2, e3⟩ := has_true hr.1
      have w0 := win_true hr.2.1
      have w1 := win_true hr.2.2.1
      have w2 := win_true hr.2.2.2
      obtain ⟨p, hp, hp2⟩ := rd_pat hw1 (i := 0) (by omega)
      obtain ⟨q, hq, hq2⟩ := rd_pat hw1 (i := 1) (by omega)
      have hp : rd x.f1 0 = (p : Int) := hp
      have hq : rd x.f1 1 = (q : Int) := hq
      have hc : 0 ≤ mn (mx (wrap64 (n - (rd x.f2 2))) 0) (rd x.f2 1) ∧ mn (mx (wrap64 (n - (rd x.f2 2))) 0) (rd x.f2 1) ≤ 2147483647 := by
        unfold mn mx
        repeat' split
        all_goals omega
      have key : sched_at.f 1 x.f0 x.f1 x.f2 x.f3 n = some ((fadd (fmul (fsub p q) (fpow (fsub 1065353216 (fdiv (fint (mn (mx (wrap64 (n - (rd x.f2 2))) 0) (rd x.f2 1))) (fint (rd x.f2 1)))) (rd x.f2 0))) q : Nat) : Int) := by
        rw [sched_at.f, if_pos c2, if_pos (by omega), if_pos (by omega), part_eq]
        unfold float_Sub.f float_Power.f float_Mul.f float_Add.f
        simp -implicitDefEqProofs only [Option.bind_some]
        rw [if_pos (by omega), if_pos (by omega), if_pos (by omega), if_pos (by omega)]
        simp -implicitDefEqProofs only [Option.bind_some, Int.toNat_natCast, hp, hq]
        rfl
      refine ⟨_, fadd_lt _ _, at_of key, rat_of hw1 (by omega) (k := 300 + 1) ?_⟩
      rw [latheref14_at.l0, if_neg (by omega), if_neg c1, if_pos c2, if_pos (by omega), if_pos (by omega), FromInt_f 300 _ (by omega) (by omega) (by omega), Option.bind_some, FromInt_f 300 _ (by omega) (by omega) (by omega), Option.bind_some, Div_f 300 _ _ (fint_lt _) (fint_lt _) (by omega), Option.bind_some, show (1065353216 : Int) = ((1065353216 : Nat) : Int) from rfl, Sub_f 300 _ _ (by omega) (fdiv_lt _ _) (by omega), Option.bind_some, if_pos (by omega), if_pos (by omega), hp, hq, Sub_f 300 p q hp2 hq2 (by omega), Option.bind_some, if_pos (by omega), Power_f 300 _ _ (fsub_lt _ _) (by omega) (by omega), Option.bind_some, Mul_f 300 _ _ (fsub_lt _ _) (fpow_lt _ _ (fsub_lt _ _)) (by omega), Option.bind_some, Add_f 300 _ _ (fmul_lt _ _) hq2 (by omega)]
      rfl
    rw [if_neg c2] at hr
    by_cases c3 : x.f0 = 3
    · rw [if_pos c3] at hr
      have hr := Option.some.inj hr
      simp only [Bool.and_eq_true] at hr
      obtain ⟨e1, e2, e3⟩ := has_true hr.1
      have w0 := win_true hr.2.2.1
      obtain ⟨p, hp, hp2⟩ := rd_pat hw1 (i := 0) (by omega)
      obtain ⟨q, hq, hq2⟩ := rd_pat hw1 (i := 1) (by omega)
      have hp : rd x.f1 0 = (p : Int) := hp
      have hq : rd x.f1 1 = (q : Int) := hq
      have hwl := wrap_le ((mx (wrap64 (n - (rd x.f2 1))) 0) / (rd x.f2 0))
      have key : sched_at.f 1 x.f0 x.f1 x.f2 x.f3 n = some ((fmul p (fpow q (wrap64 ((mx (wrap64 (n - (rd x.f2 1))) 0) / (rd x.f2 0)))) : Nat) : Int) := by
        rw [sched_at.f, if_neg c2, if_pos c3, if_pos (by omega), if_pos (by omega), if_neg (by omega), if_pos (by omega), if_pos (by omega), hp, hq]
        unfold float_Power.f float_Mul.f
        rw [if_pos ⟨by omega, hwl⟩]
        simp -implicitDefEqProofs only [Option.bind_some, Int.toNat_natCast]
      refine ⟨_, fmul_lt _ _, at_of key, rat_of hw1 (by omega) (k := 300 + 1) ?_⟩
      rw [latheref14_at.l0, if_neg (by omega), if_neg c1, if_neg c2, if_pos c3, if_pos (by omega), if_pos (by omega), if_neg (by omega), if_pos (by omega), if_pos (by omega), hp, hq, Power_f 300 _ _ hq2 hwl (by omega), Option.bind_some, Mul_f 300 _ _ hp2 (fpow_lt _ _ hq2) (by omega)]
      rfl
    rw [if_neg c3] at hr
    by_cases c4 : x.f0 = 4
    · rw [if_pos c4] at hr
      have hr := Option.some.inj hr
      simp only [Bool.and_eq_true] at hr
      obtain ⟨e1, e2, e3⟩ := has_true hr.1
      have w0 := win_true hr.2
      obtain ⟨p, hp, hp2⟩ := rd_pat hw1 (i := 0) (by omega)
      obtain ⟨q, hq, hq2⟩ := rd_pat hw1 (i := 1) (by omega)
      have hp : rd x.f1 0 = (p : Int) := hp
      have hq : rd x.f1 1 = (q : Int) := hq
      have hc : -9223372036854775808 ≤ mn n (rd x.f2 0) ∧ mn n (rd x.f2 0) ≤ 9223372036854775807 := by
        unfold mn
        split <;> omega
      have hwv := wv_lt (fdiv (fint (mn n (rd x.f2 0))) (fint (rd x.f2 0))) (fdiv_lt _ _)
      have key : sched_at.f 1 x.f0 x.f1 x.f2 x.f3 n = some ((fmul (fadd (fmul (fsub 1065353216 q) (fmul 1056964608 (fadd 1065353216 (Wav.wv ((fdiv (fint (mn n (rd x.f2 0))) (fint (rd x.f2 0)) : Nat) : Int))))) q) p : Nat) : Int) := by
        rw [sched_at.f, if_neg c2, if_neg c3, if_pos c4, if_pos (by omega), if_pos (by omega), if_pos (by omega), part_eq, hp, hq]
        unfold sched_Wave.f float_Sub.f float_Mul.f float_Add.f
        simp -implicitDefEqProofs only [Option.bind_some, Int.toNat_natCast]
        rfl
      refine ⟨_, fmul_lt _ _, at_of key, rat_of hw1 (by omega) (k := 300 + 1) ?_⟩
      rw [latheref14_at.l0, if_neg (by omega), if_neg c1, if_neg c2, if_neg c3, if_pos c4, if_pos (by omega), FromInt_f 300 _ hc.1 hc.2 (by omega), Option.bind_some, FromInt_f 300 _ (by omega) (by omega) (by omega), Option.bind_some, Div_f 300 _ _ (fint_lt _) (fint_lt _) (by omega), Option.bind_some, Wave_f 300 _ (fdiv_lt _ _) (by omega), Option.bind_some, show (1065353216 : Int) = ((1065353216 : Nat) : Int) from rfl, Add_f 300 _ _ (by omega) hwv (by omega), Option.bind_some, show (1056964608 : Int) = ((1056964608 : Nat) : Int) from rfl, Mul_f 300 _ _ (by omega) (fadd_lt _ _) (by omega), Option.bind_some, if_pos (by omega), hp, hq, Sub_f 300 _ _ (by omega) hq2 (by omega), Option.bind_some, Mul_f 300 _ _ (fsub_lt _ _) (fmul_lt _ _) (by omega), Option.bind_some, Add_f 300 _ _ (fmul_lt _ _) hq2 (by omega), Option.bind_some, if_pos (by omega), Mul_f 300 _ _ (fadd_lt _ _) hp2 (by omega)]
      rfl
    rw [if_neg c4] at hr
    by_cases c5 : x.f0 = 5
    · rw [if_pos c5] at hr
      obtain ⟨b, _, hb⟩ := Option.map_eq_some_iff.1 hr
      simp only [Bool.and_eq_true] at hb
      obtain ⟨e1, e2, e3⟩ := has_true hb.1
      obtain ⟨p, hp, hp2⟩ := rd_pat hw1 (i := 0) (by omega)
      have hp : rd x.f1 0 = (p : Int) := hp
      obtain ⟨v, hv, ⟨K, hK⟩, ⟨K2, hK2⟩⟩ := pieces x n hw1 hl2 (by omega) x.f2.length 0 p (by omega) hp2
      have a := hK K (Nat.le_refl _)
      have a2 := hK2 K2 (Nat.le_refl _)
      dsimp only at a a2
      refine ⟨v, hv, at_of (k := K + 1) ?_, rat_of hw1 (by omega) (k := K2 + 1) ?_⟩
      · rw [sched_at.f, if_neg c2, if_neg c3, if_neg c4, if_pos c5, if_pos (by omega), hp]
        exact a
      · rw [latheref14_at.l0, if_neg (by omega), if_neg c1, if_neg c2, if_neg c3, if_neg c4, if_pos c5, if_pos (by omega), hp]
        exact a2
    rw [if_neg c5] at hr
    by_cases c6 : x.f0 = 6
    · rw [if_pos c6] at hr
      obtain ⟨b, _, hb⟩ := Option.map_eq_some_iff.1 hr
      simp only [Bool.and_eq_true, beq_iff_eq, decide_eq_true_eq] at hb
      have hle := kidOf_le x.f2 n x.f2.length
      obtain ⟨v, hlt, hv, hv2⟩ := kid (kidOf x.f2 n x.f2.length) (by omega) (wrap64 (n - fromOf x.f2 (kidOf x.f2 n x.f2.length))) (wrap_ge _) (wrap_le _)
      rw [rd_at] at hv hv2
      obtain ⟨K, hK⟩ := join_loop x n hl2 (by omega) v hv x.f2.length 0 (by omega)
      obtain ⟨K2, hK2⟩ := rjoin_loop x n hl2 (by omega) v hv2 x.f2.length 0 (by omega)
      have a := hK K (Nat.le_refl _)
      have a2 := hK2 K2 (Nat.le_refl _)
      dsimp only at a a2
      refine ⟨v, hlt, at_of (k := K + 1) ?_, rat_of hw1 (by omega) (k := K2 + 1) ?_⟩
      · rw [sched_at.f, if_neg c2, if_neg c3, if_neg c4, if_neg c5, if_pos c6]
        exact a
      · rw [latheref14_at.l0, if_neg (by omega), if_neg c1, if_neg c2, if_neg c3, if_neg c4, if_neg c5, if_pos c6]
        exact a2
    rw [if_neg c6] at hr
    by_cases c7 : x.f0 = 7
    · rw [if_pos c7] at hr
      have hr := Option.some.inj hr
      simp only [Bool.and_eq_true] at hr
      obtain ⟨e1, e2, e3⟩ := has_true hr.1
      have w0 := win_true hr.2
      obtain ⟨p, hp, hp2⟩ := rd_pat hw1 (i := 0) (by omega)
      have hp : rd x.f1 0 = (p : Int) := hp
      have hc : -9223372036854775808 ≤ mx n (rd x.f2 0) ∧ mx n (rd x.f2 0) ≤ 9223372036854775807 := by
        unfold mx
        split <;> omega
      have key : sched_at.f 1 x.f0 x.f1 x.f2 x.f3 n = some ((fmul p (fsqrt (fdiv (fint (rd x.f2 0)) (fint (mx n (rd x.f2 0))))) : Nat) : Int) := by
        rw [sched_at.f, if_neg c2, if_neg c3, if_neg c4, if_neg c5, if_neg c6, if_neg (by omega), if_neg (by omega), if_neg (by omega), if_neg (by omega), if_neg (by omega), if_neg (by omega), if_pos c7, if_pos (by omega), if_pos (by omega), part_eq, hp]
        unfold float_Sqrt.f float_Mul.f
        simp -implicitDefEqProofs only [Option.bind_some, Int.toNat_natCast]
      refine ⟨_, fmul_lt _ _, at_of key, rat_of hw1 (by omega) (k := 300 + 1) ?_⟩
      rw [latheref14_at.l0, if_neg (by omega), if_neg c1, if_neg c2, if_neg c3, if_neg c4, if_neg c5, if_neg c6, if_neg (by omega), if_neg (by omega), if_neg (by omega), if_neg (by omega), if_neg (by omega), if_neg (by omega), if_pos (by omega), FromInt_f 300 _ (by omega) (by omega) (by omega), Option.bind_some, FromInt_f 300 _ hc.1 hc.2 (by omega), Option.bind_some, Div_f 300 _ _ (fint_lt _) (fint_lt _) (by omega), Option.bind_some, if_pos (by omega), Sqrt_f 300 _ (fdiv_lt _ _) (by omega), Option.bind_some, hp, Mul_f 300 _ _ hp2 (fsqrt_lt _) (by omega)]
      rfl
    rw [if_neg c7] at hr
    by_cases c8 : x.f0 = 8 ∨ x.f0 = 9 ∨ x.f0 = 10 ∨ x.f0 = 11
    · rw [if_pos c8] at hr
      have hr := Option.some.inj hr
      simp only [Bool.and_eq_true, beq_iff_eq, decide_eq_true_eq] at hr
      obtain ⟨v0, b0, ⟨K0, h0⟩, ⟨K2, h2⟩⟩ := kid 0 (by omega) n n0 n1
      obtain ⟨v1, b1, ⟨K1, h1⟩, ⟨K3, h3⟩⟩ := kid 1 (by omega) n n0 n1
      have a0 : sched_at.f (max K0 K1) (rd_T26 x.f3 0).f0 (rd_T26 x.f3 0).f1 (rd_T26 x.f3 0).f2 (rd_T26 x.f3 0).f3 n = some (v0 : Int) := h0 (max K0 K1) (by omega)
      have a1 : sched_at.f (max K0 K1) (rd_T26 x.f3 1).f0 (rd_T26 x.f3 1).f1 (rd_T26 x.f3 1).f2 (rd_T26 x.f3 1).f3 n = some (v1 : Int) := h1 (max K0 K1) (by omega)
      have r0 : latheref14_at.f (max (max K2 K3) 300) (rd_T26 x.f3 0).f0 (rd_T26 x.f3 0).f1 (rd_T26 x.f3 0).f2 (rd_T26 x.f3 0).f3 n = some (v0 : Int) := h2 (max (max K2 K3) 300) (by omega)
      have r1 : latheref14_at.f (max (max K2 K3) 300) (rd_T26 x.f3 1).f0 (rd_T26 x.f3 1).f1 (rd_T26 x.f3 1).f2 (rd_T26 x.f3 1).f3 n = some (v1 : Int) := h3 (max (max K2 K3) 300) (by omega)
      have hk3 : 300 ≤ max (max K2 K3) 300 := by omega
      generalize max (max K2 K3) 300 = k3 at r0 r1 hk3
      rcases c8 with c | c | c | c
      · refine ⟨fadd v0 v1, fadd_lt _ _, at_of (k := max K0 K1 + 1) ?_, rat_of hw1 (by omega) (k := k3 + 1) ?_⟩
        · rw [sched_at.f, if_neg c2, if_neg c3, if_neg c4, if_neg c5, if_neg c6, if_pos c, if_pos (by omega), a0]
          simp only [Option.bind_some]
          rw [if_pos (by omega), a1]
          rfl
        · rw [latheref14_at.l0, if_neg (by omega), if_neg c1, if_neg c2, if_neg c3, if_neg c4, if_neg c5, if_neg c6, if_pos c, if_pos (by omega), r0, Option.bind_some, if_pos (by omega), r1, Option.bind_some, Add_f k3 v0 v1 b0 b1 (by omega)]
          rfl
      · refine ⟨fmul v0 v1, fmul_lt _ _, at_of (k := max K0 K1 + 1) ?_, rat_of hw1 (by omega) (k := k3 + 1) ?_⟩
        · rw [sched_at.f, if_neg c2, if_neg c3, if_neg c4, if_neg c5, if_neg c6, if_neg (by omega), if_pos c, if_pos (by omega), a0]
          simp only [Option.bind_some]
          rw [if_pos (by omega), a1]
          rfl
        · rw [latheref14_at.l0, if_neg (by omega), if_neg c1, if_neg c2, if_neg c3, if_neg c4, if_neg c5, if_neg c6, if_neg (by omega), if_pos c, if_pos (by omega), r0, Option.bind_some, if_pos (by omega), r1, Option.bind_some, Mul_f k3 v0 v1 b0 b1 (by omega)]
          rfl
      · refine ⟨fmin v0 v1, fmin_lt b0 b1, at_of (k := max K0 K1 + 1) ?_, rat_of hw1 (by omega) (k := k3 + 1) ?_⟩
        · rw [sched_at.f, if_neg c2, if_neg c3, if_neg c4, if_neg c5, if_neg c6, if_neg (by omega), if_neg (by omega), if_pos c, if_pos (by omega), a0]
          simp only [Option.bind_some]
          rw [if_pos (by omega), a1]
          rfl
        · rw [latheref14_at.l0, if_neg (by omega), if_neg c1, if_neg c2, if_neg c3, if_neg c4, if_neg c5, if_neg c6, if_neg (by omega), if_neg (by omega), if_pos c, if_pos (by omega), r0, Option.bind_some, if_pos (by omega), r1, Option.bind_some, Min_f v0 v1 b0 b1]
          rfl
      · refine ⟨fmax v0 v1, fmax_lt b0 b1, at_of (k := max K0 K1 + 1) ?_, rat_of hw1 (by omega) (k := k3 + 1) ?_⟩
        · rw [sched_at.f, if_neg c2, if_neg c3, if_neg c4, if_neg c5, if_neg c6, if_neg (by omega), if_neg (by omega), if_neg (by omega), if_pos c, if_pos (by omega), a0]
          simp only [Option.bind_some]
          rw [if_pos (by omega), a1]
          rfl
        · rw [latheref14_at.l0, if_neg (by omega), if_neg c1, if_neg c2, if_neg c3, if_neg c4, if_neg c5, if_neg c6, if_neg (by omega), if_neg (by omega), if_neg (by omega), if_pos c, if_pos (by omega), r0, Option.bind_some, if_pos (by omega), r1, Option.bind_some, Max_f v0 v1 b0 b1]
          rfl
    rw [if_neg c8] at hr
    by_cases c12 : x.f0 = 12 ∨ x.f0 = 13
    · rw [if_pos c12] at hr
      have hr := Option.some.inj hr
      simp only [Bool.and_eq_true, beq_iff_eq, decide_eq_true_eq] at hr
      rcases c12 with c | c
      · have hb : -9223372036854775808 ≤ mx (wrap64 (n - (rd x.f2 0))) 0 ∧ mx (wrap64 (n - (rd x.f2 0))) 0 ≤ 9223372036854775807 := by
          have := wrap_le (n - (rd x.f2 0))
          unfold mx
          split <;> omega
        obtain ⟨v, hlt, ⟨K, h0⟩, ⟨K2, h2⟩⟩ := kid 0 (by omega) (mx (wrap64 (n - (rd x.f2 0))) 0) hb.1 hb.2
        have a0 : sched_at.f K (rd_T26 x.f3 0).f0 (rd_T26 x.f3 0).f1 (rd_T26 x.f3 0).f2 (rd_T26 x.f3 0).f3 (mx (wrap64 (n - (rd x.f2 0))) 0) = some (v : Int) := h0 K (Nat.le_refl _)
        have r0 : latheref14_at.f K2 (rd_T26 x.f3 0).f0 (rd_T26 x.f3 0).f1 (rd_T26 x.f3 0).f2 (rd_T26 x.f3 0).f3 (mx (wrap64 (n - (rd x.f2 0))) 0) = some (v : Int) := h2 K2 (Nat.le_refl _)
        refine ⟨v, hlt, at_of (k := K + 1) ?_, rat_of hw1 (by omega) (k := K2 + 1) ?_⟩
        · rw [sched_at.f, if_neg c2, if_neg c3, if_neg c4, if_neg c5, if_neg c6, if_neg (by omega), if_neg (by omega), if_neg (by omega), if_neg (by omega), if_pos c, if_pos (by omega), if_pos (by omega)]
          rw [a0]
          rfl
        · rw [latheref14_at.l0, if_neg (by omega), if_neg c1, if_neg c2, if_neg c3, if_neg c4, if_neg c5, if_neg c6, if_neg (by omega), if_neg (by omega), if_neg (by omega), if_neg (by omega), if_pos c, if_pos (by omega), if_pos (by omega)]
          rw [r0]
          rfl
      · have hw0 : (Lit.int .i64 (rd x.f2 0)).wf = true := hw2 _ (rd_mem (i := 0) (by omega))
        have hb : -9223372036854775808 ≤ mn n (rd x.f2 0) ∧ mn n (rd x.f2 0) ≤ 9223372036854775807 := by
          simp [Lit.wf, IntKind.min, IntKind.max, IntKind.signed, IntKind.bits] at hw0
          unfold mn
          split <;> omega
        obtain ⟨v, hlt, ⟨K, h0⟩, ⟨K2, h2⟩⟩ := kid 0 (by omega) (mn n (rd x.f2 0)) hb.1 hb.2
        have a0 : sched_at.f K (rd_T26 x.f3 0).f0 (rd_T26 x.f3 0).f1 (rd_T26 x.f3 0).f2 (rd_T26 x.f3 0).f3 (mn n (rd x.f2 0)) = some (v : Int) := h0 K (Nat.le_refl _)
        have r0 : latheref14_at.f K2 (rd_T26 x.f3 0).f0 (rd_T26 x.f3 0).f1 (rd_T26 x.f3 0).f2 (rd_T26 x.f3 0).f3 (mn n (rd x.f2 0)) = some (v : Int) := h2 K2 (Nat.le_refl _)
        refine ⟨v, hlt, at_of (k := K + 1) ?_, rat_of hw1 (by omega) (k := K2 + 1) ?_⟩
        · rw [sched_at.f, if_neg c2, if_neg c3, if_neg c4, if_neg c5, if_neg c6, if_neg (by omega), if_neg (by omega), if_neg (by omega), if_neg (by omega), if_neg (by omega), if_pos c, if_pos (by omega), if_pos (by omega)]
          rw [a0]
          rfl
        · rw [latheref14_at.l0, if_neg (by omega), if_neg c1, if_neg c2, if_neg c3, if_neg c4, if_neg c5, if_neg c6, if_neg (by omega), if_neg (by omega), if_neg (by omega), if_neg (by omega), if_neg (by omega), if_pos c, if_pos (by omega), if_pos (by omega)]
          rw [r0]
          rfl
    rw [if_neg c12] at hr
    exact absurd (Option.some.inj hr) (by decide)
end Go.Proofs.YtmfladkimmnccaaDoor.Sto
