/- The pure form of PairLists: pairs of a row, laid flat again. No condition. -/
import Derived.Test.YtcegmbplgghjnaaFpe
import Derived.Test.YtcegmbplgghjnaaPLx2
import Derived.Test.YtcegmbplgghjnaaPLx3
import Derived.Test.YtcegmbplgghjnaaPLx4
set_option linter.unusedVariables false
set_option linter.unusedSimpArgs false
namespace Go.Proofs.Ytcegmbplgghjnaa.Pure
open Go.RowKit Lathe Go.Proofs.Ytcegmbplgghjnaa.PL Go.Proofs.YtcegmbplgghjnaaW.PrintWords Go.Proofs.YtcegmbplgghjnaaW.PrintMore

theorem works_l : lathelaw04_works.f = some true := by
  unfold lathelaw04_works.f pair_Mul.f pair_Square.f pair_Add.f
  simp -implicitDefEqProofs only [Option.bind_some]
  have h1 : (((cmul ((1065353216 : Int).toNat, (1073741824 : Int).toNat) ((1077936128 : Int).toNat, (1082130432 : Int).toNat)).1 : Nat) : Int) = 3231711232 := by decide +kernel
  have h2 : (((cmul ((1065353216 : Int).toNat, (1073741824 : Int).toNat) ((1077936128 : Int).toNat, (1082130432 : Int).toNat)).2 : Nat) : Int) = 1092616192 := by decide +kernel
  have h3 : ((fadd (fmul (1077936128 : Int).toNat (1077936128 : Int).toNat) (fmul (1082130432 : Int).toNat (1082130432 : Int).toNat) : Nat) : Int) = 1103626240 := by decide +kernel
  have h4 : ((fadd (1065353216 : Int).toNat (1077936128 : Int).toNat : Nat) : Int) = 1082130432 := by decide +kernel
  have h5 : ((fadd (1073741824 : Int).toNat (1082130432 : Int).toNat : Nat) : Int) = 1086324736 := by decide +kernel
  rw [h1, h2, h3, h4, h5]
  rfl
theorem w_l {x : Int} (h0 : 0 ≤ x) (h1 : x ≤ 9223372036854775807) : wrap64 x = x := by unfold wrap64; omega
def pr (l : List Int) (i : Nat) : S25 := ⟨rd l (2 * (i : Int)), rd l (2 * (i : Int) + 1)⟩
def prs (l : List Int) (n : Nat) : List S25 := (List.range n).map (pr l)
theorem prs_len (l : List Int) (n : Nat) : (prs l n).length = n := by simp [prs]
theorem prs_succ (l : List Int) (n : Nat) : prs l (n + 1) = prs l n ++ [pr l n] := by simp [prs, List.range_succ]
theorem prs_rd (l : List Int) {n i : Nat} (h : i < n) : rd_T25 (prs l n) (i : Int) = pr l i := by
  simp [rd_T25, prs, List.getD_eq_getElem?_getD, h]
theorem Pairs_l (l : List Int) (n : Nat) (hl : l.length = 2 * n) (hn : n < 17592186044416) : ∀ (d i k : Nat), i + d = n → d < k → pair_Pairs.l0 k l (prs l i ++ List.replicate d z25) (n : Int) (i : Int) = some (prs l n, 0)
  | 0, i, 0, _, hk => absurd hk (by omega)
  | 0, i, k + 1, hi, _ => by
    obtain rfl : i = n := by omega
    unfold pair_Pairs.l0
    rw [if_neg (by omega)]
    simp
  | d + 1, i, 0, _, hk => absurd hk (by omega)
  | d + 1, i, k + 1, hi, hk => by
    unfold pair_Pairs.l0
    have e1 : wrap64 (2 * (i : Int)) = 2 * (i : Int) := w_l (by omega) (by omega)
    have e2 : wrap64 (2 * (i : Int) + 1) = 2 * (i : Int) + 1 := w_l (by omega) (by omega)
    have e3 : wrap64 ((i : Int) + 1) = ((i + 1 : Nat) : Int) := by rw [w_l (by omega) (by omega)]; omega
    have e4 : (prs l i ++ List.replicate (d + 1) z25).set (i : Int).toNat (pr l i) = prs l (i + 1) ++ List.replicate d z25 := by
      rw [Int.toNat_natCast, List.set_append_right _ _ (by rw [prs_len]; omega), prs_len, Nat.sub_self, List.replicate_succ, prs_succ]
      simp
    rw [e1, e2, e3, if_pos (by omega), if_pos (by omega), if_pos (by omega), if_pos (by omega), if_pos (by omega), if_pos (by omega), if_pos (by rw [List.length_append, prs_len, List.length_replicate]; omega)]
    exact (congrArg (fun z => pair_Pairs.l0 k l z (n : Int) ((i + 1 : Nat) : Int)) e4).trans (Pairs_l l n hl hn d (i + 1) k (by omega) (by omega))
theorem refPairs_l (l : List Int) (n : Nat) (hl : l.length = 2 * n) (hn : n < 17592186044416) : ∀ (d i k : Nat), i + d = n → d < k → latheref04_Pairs.l0 k l (prs l i) (2 * (i : Int)) = some (prs l n, 0)
  | 0, i, 0, _, hk => absurd hk (by omega)
  | 0, i, k + 1, hi, _ => by
    obtain rfl : i = n := by omega
    unfold latheref04_Pairs.l0
    have e2 : wrap64 (2 * (i : Int) + 1) = 2 * (i : Int) + 1 := w_l (by omega) (by omega)
    rw [e2, if_neg (by omega)]
  | d + 1, i, 0, _, hk => absurd hk (by omega)
  | d + 1, i, k + 1, hi, hk => by
    unfold latheref04_Pairs.l0
    have e2 : wrap64 (2 * (i : Int) + 1) = 2 * (i : Int) + 1 := w_l (by omega) (by omega)
    have e3 : wrap64 (2 * (i : Int) + 2) = 2 * ((i + 1 : Nat) : Int) := by rw [w_l (by omega) (by omega)]; omega
    rw [e2, e3, if_pos (by omega), if_pos (by omega), if_pos (by omega), if_pos (by omega), if_pos (by rw [prs_len]; omega)]
    exact (congrArg (fun z => latheref04_Pairs.l0 k l z (2 * ((i + 1 : Nat) : Int))) (prs_succ l i).symm).trans (refPairs_l l n hl hn d (i + 1) k (by omega) (by omega))
theorem same_l (l : List Int) (hl : l.length < 9223372036854775807) : ∀ (d i k : Nat), i + d = l.length → d < k → lathelaw04_sameNums.l0 k l l (i : Int) = some true
  | 0, i, 0, _, hk => absurd hk (by omega)
  | 0, i, k + 1, hi, _ => by
    unfold lathelaw04_sameNums.l0
    rw [if_neg (by omega)]
  | d + 1, i, 0, _, hk => absurd hk (by omega)
  | d + 1, i, k + 1, hi, hk => by
    unfold lathelaw04_sameNums.l0
    have e3 : wrap64 ((i : Int) + 1) = ((i + 1 : Nat) : Int) := by rw [w_l (by omega) (by omega)]; omega
    rw [e3, if_pos (by omega), if_pos (by omega), if_pos (by omega), if_pos rfl]
    exact same_l l hl d (i + 1) k (by omega) (by omega)
theorem same_f (l : List Int) (hl : l.length < 9223372036854775807) (k : Nat) (hk : l.length < k) : lathelaw04_sameNums.f k l l = some true := by
  unfold lathelaw04_sameNums.f
  rw [if_pos rfl]
  exact same_l l hl l.length 0 k (by omega) hk
theorem same0 (x0 x3 : List Int) (L : List S25) (c : Int) (hl : L.length < 9223372036854775807) : ∀ (d i k : Nat), i + d = L.length → lathelaw04_PairLists.l0 (k + d) x0 x3 L L c (i : Int) = lathelaw04_PairLists.l0 k x0 x3 L L c (L.length : Int)
  | 0, i, k, hi => by
    obtain rfl : i = L.length := by omega
    rfl
  | d + 1, i, k, hi => by
    have e3 : wrap64 ((i : Int) + 1) = ((i + 1 : Nat) : Int) := by rw [w_l (by omega) (by omega)]; omega
    rw [← Nat.add_assoc, lathelaw04_PairLists.l0, e3, if_pos (by omega), if_pos (by omega), if_pos (by omega), if_neg (by simp)]
    exact same0 x0 x3 L c hl d (i + 1) k (by omega)
theorem poke1 (x0 x3 x9 x10 : List Int) : ∀ (d i k : Nat) (L : List S25), i + d = L.length → L.length < 9223372036854775807 → lathelaw04_PairLists.l1 (k + 1 + d) x0 x3 L x9 x10 (i : Int) = lathelaw04_PairLists.l2 k x0 x3 x9 x10 0
  | 0, i, k, L, hi, hl => by
    show lathelaw04_PairLists.l1 (k + 1) x0 x3 L x9 x10 (i : Int) = _
    rw [lathelaw04_PairLists.l1, if_neg (by omega)]
  | d + 1, i, k, L, hi, hl => by
    have e3 : wrap64 ((i : Int) + 1) = ((i + 1 : Nat) : Int) := by rw [w_l (by omega) (by omega)]; omega
    rw [← Nat.add_assoc, lathelaw04_PairLists.l1, e3, if_pos (by omega), if_pos (by omega)]
    exact poke1 x0 x3 x9 x10 d (i + 1) k _ (by rw [List.length_set]; omega) (by rw [List.length_set]; omega)
theorem poke2 (x0 : List Int) (hx : x0.length < 9223372036854775807) : ∀ (d i k : Nat) (x9 : List Int), i + d = x9.length → x9.length < 9223372036854775807 → x0.length < k → lathelaw04_PairLists.l2 (k + 1 + d) x0 x0 x9 x0 (i : Int) = some true
  | 0, i, k, L, hi, hl, hk => by
    show lathelaw04_PairLists.l2 (k + 1) x0 x0 L x0 (i : Int) = _
    rw [lathelaw04_PairLists.l2, if_neg (by omega), same_f x0 hx k hk]
    simp -implicitDefEqProofs only [Option.bind_some]
    rw [if_pos trivial, if_pos trivial, works_l]
    rfl
  | d + 1, i, k, L, hi, hl, hk => by
    have e3 : wrap64 ((i : Int) + 1) = ((i + 1 : Nat) : Int) := by rw [w_l (by omega) (by omega)]; omega
    rw [← Nat.add_assoc, lathelaw04_PairLists.l2, e3, if_pos (by omega), if_pos (by omega)]
    exact poke2 x0 hx d (i + 1) k _ (by rw [List.length_set]; omega) (by rw [List.length_set]; omega) hk
theorem fl_take (l : List Int) (x y : Nat → Int) (n : Nat) (hl : l.length = 2 * n) (h : ∀ i, i < n → x i = rd l (2 * (i : Int)) ∧ y i = rd l (2 * (i : Int) + 1)) : ∀ m, m ≤ n → Fla.fl x y m = l.take (2 * m)
  | 0, _ => by simp [Fla.fl]
  | m + 1, hm => by
    rw [Fla.fl, fl_take l x y n hl h m (by omega), (h m (by omega)).1, (h m (by omega)).2]
    have e1 : rd l (2 * (m : Int)) = l[2 * m]'(by omega) := by
      have : (2 * (m : Int)).toNat = 2 * m := by omega
      simp [rd, this, List.getD_eq_getElem?_getD, List.getElem?_eq_getElem (show 2 * m < l.length by omega)]
    have e2 : rd l (2 * (m : Int) + 1) = l[2 * m + 1]'(by omega) := by
      have : (2 * (m : Int) + 1).toNat = 2 * m + 1 := by omega
      simp [rd, this, List.getD_eq_getElem?_getD, List.getElem?_eq_getElem (show 2 * m + 1 < l.length by omega)]
    rw [e1, e2, show 2 * (m + 1) = 2 * m + 1 + 1 from by omega, List.take_succ_eq_append_getElem (by omega), List.take_succ_eq_append_getElem (by omega)]
    exact (List.append_assoc _ [_] [_]).symm
theorem Flat_f (l : List Int) (n : Nat) (hl : l.length = 2 * n) (hn : n < 17592186044416) : pair_Flat.f (prs l n) = some l := by
  unfold pair_Flat.f
  rw [prs_len, if_pos hn, fl_take l _ _ n hl (fun i hi => by rw [prs_rd l hi]; exact ⟨rfl, rfl⟩) n (Nat.le_refl _), ← hl, List.take_length]
theorem PairLists : lathelaw04_PairLists.Pure := by
  intro l hl hs _
  by_cases hp : l.length % 2 = 0
  · obtain ⟨n, hn⟩ : ∃ n, l.length = 2 * n := ⟨l.length / 2, by omega⟩
    have hn2 : n < 17592186044416 := by omega
    refine ⟨(((l.length + 1) + 1 + l.length) + 1 + n) + 1 + n + 1, ?_⟩
    generalize hK : (((l.length + 1) + 1 + l.length) + 1 + n) + 1 + n + 1 = K
    unfold lathelaw04_PairLists.f
    have hd : wrap64 ((l.length : Int) / 2) = (n : Int) := by rw [w_l (by omega) (by omega)]; omega
    have f1 : pair_Pairs.f K l = some (prs l n, 0) := by
      unfold pair_Pairs.f
      rw [hd, if_pos (by omega), if_pos (by omega), if_pos (by omega)]
      simp -implicitDefEqProofs only [Option.bind_some, List.length_replicate, Int.toNat_natCast]
      have := Pairs_l l n hn hn2 n 0 K (by omega) (by omega)
      simpa [prs] using this
    have f2 : latheref04_Pairs.f K l = some (prs l n, 0) := by
      unfold latheref04_Pairs.f
      rw [if_neg (by omega)]
      have := refPairs_l l n hn hn2 n 0 K (by omega) (by omega)
      simpa [prs] using this
    rw [if_pos (by simp; omega), List.nil_append]
    simp -implicitDefEqProofs only [Option.bind_some]
    rw [f1]
    simp -implicitDefEqProofs only [Option.bind_some]
    rw [f2]
    simp -implicitDefEqProofs only [Option.bind_some]
    rw [if_pos trivial, ← hK, lathelaw04_PairLists.j0, if_neg (by simp)]
    have hlen := prs_len l n
    have := same0 l l (prs l n) 0 (by omega) n 0 (((l.length + 1) + 1 + l.length) + 1 + n + 1) (by omega)
    rw [show (((l.length + 1) + 1 + l.length) + 1 + n) + 1 + n = (((l.length + 1) + 1 + l.length) + 1 + n + 1) + n from rfl]
    refine this.trans ?_
    rw [lathelaw04_PairLists.l0, if_neg (by omega), if_pos rfl, Flat_f l n hn hn2]
    simp -implicitDefEqProofs only [Option.bind_some]
    rw [same_f l (by omega) _ (by omega)]
    simp -implicitDefEqProofs only [Option.bind_some]
    rw [if_pos trivial]
    refine (poke1 l l l l n 0 ((l.length + 1) + 1 + l.length) (prs l n) (by omega) (by omega)).trans ?_
    exact poke2 l (by omega) l.length 0 (l.length + 1) l (by omega) (by omega) (by omega)
  · refine ⟨5, ?_⟩
    unfold lathelaw04_PairLists.f
    have f1 : pair_Pairs.f 5 l = some ([], 50) := by
      unfold pair_Pairs.f
      rw [if_neg (by omega)]
    have f2 : latheref04_Pairs.f 5 l = some ([], 50) := by
      unfold latheref04_Pairs.f
      rw [if_pos (by omega)]
    rw [if_pos (by simp; omega), List.nil_append]
    simp -implicitDefEqProofs only [Option.bind_some]
    rw [f1]
    simp -implicitDefEqProofs only [Option.bind_some]
    rw [f2]
    simp -implicitDefEqProofs only [Option.bind_some]
    rw [if_pos trivial, lathelaw04_PairLists.j0, if_neg (by simp), lathelaw04_PairLists.l0, if_neg (by simp), if_neg (by decide), if_pos (by simp), works_l]
    simp -implicitDefEqProofs only [Option.bind_some]
end Go.Proofs.Ytcegmbplgghjnaa.Pure
