/- The pure form of VectorEnds: Least, Most, Finite, Canon of lists; Fill. Condition: lists of at most 1048576 numbers. -/
import Derived.Test.YtmfladkimmnccaaRlv
import Derived.Test.YtmfladkimmnccaaPFx1
import Derived.Test.YtmfladkimmnccaaPFx12
import Derived.Test.YtmfladkimmnccaaPFx13
import Derived.Test.YtmfladkimmnccaaPFx14
import Derived.Test.YtmfladkimmnccaaPFx15
set_option linter.unusedVariables false
set_option linter.unusedSimpArgs false
namespace Go.Proofs.Ytmfladkimmnccaa.Pure
open Go.RowKit Lathe Go.Proofs.Ytmfladkimmnccaa.PF Go.Proofs.Ytmfladkimmnccaa.Rla Go.Proofs.Ytmfladkimmnccaa.Rlb Go.Proofs.Ytmfladkimmnccaa.Rlc Go.Proofs.Ytmfladkimmnccaa.Rlv Go.Proofs.YtmfladkimmnccaaW.PrintWords Go.Proofs.YtmfladkimmnccaaW.PrintMore
open Go.Proofs.Ytmfladkimmnccaa.Rle (Min_f Max_f finite_f fmin_lt fmax_lt and_low and_exp)

abbrev maxF (m : List Nat) (s i : Nat) : Nat := fmax s (m.getD i 0)
theorem max_p (a b : Nat) : float_Max.f a b = some ((fmax a b : Nat) : Int) := by unfold float_Max.f; simp only [Int.toNat_natCast]
theorem lp_lt' {f : Nat → Nat → Nat} (h : ∀ s i, s < 4294967296 → f s i < 4294967296) : ∀ (d i s : Nat), s < 4294967296 → lp f d i s < 4294967296
  | 0, _, s, hs => hs
  | d + 1, i, s, hs => lp_lt' h d (i + 1) _ (h _ _ hs)
theorem vMax_l (m : List Nat) (hm : m.length ≤ 1048576) : ∀ (d i s k : Nat), i + d = m.length → d < k → vector_Most.l0 k (s : Int) (C m) (m.length : Int) (i : Int) = some ((lp (maxF m) d i s : Nat) : Int)
  | 0, i, s, k, h, hk => by
    obtain ⟨k, rfl⟩ : ∃ j, k = j + 1 := ⟨k - 1, by omega⟩
    rw [vector_Most.l0, if_neg (by omega)]; rfl
  | d + 1, i, s, k, h, hk => by
    obtain ⟨k, rfl⟩ : ∃ j, k = j + 1 := ⟨k - 1, by omega⟩
    rw [vector_Most.l0, if_pos (by omega), if_pos (by omega), if_pos (by rw [C_len]; omega), rd_c, max_p]
    simp -implicitDefEqProofs only [Option.bind_some]
    rw [up1 (by omega)]
    exact vMax_l m hm d (i + 1) _ k (by omega) (by omega)
theorem rMin_l (m : List Nat) (hm : m.length ≤ 1048576) (hp : Pats m) : ∀ (d i s k : Nat), i + d = m.length → d < k → s < 4294967296 → latheref05_Least.l0 k (C m) (s : Int) (i : Int) = some ((lp (minF m) d i s : Nat) : Int)
  | 0, i, s, k, h, hk, hs => by
    obtain ⟨k, rfl⟩ : ∃ j, k = j + 1 := ⟨k - 1, by omega⟩
    rw [latheref05_Least.l0, if_neg (by rw [C_len]; omega)]; rfl
  | d + 1, i, s, k, h, hk, hs => by
    obtain ⟨k, rfl⟩ : ∃ j, k = j + 1 := ⟨k - 1, by omega⟩
    rw [latheref05_Least.l0, if_pos (by rw [C_len]; omega), if_pos (by omega), rd_c, Min_f s _ hs (hp i)]
    simp -implicitDefEqProofs only [Option.bind_some]
    rw [up1 (by omega)]
    exact rMin_l m hm hp d (i + 1) _ k (by omega) (by omega) (fmin_lt hs (hp i))
theorem rMax_l (m : List Nat) (hm : m.length ≤ 1048576) (hp : Pats m) : ∀ (d i s k : Nat), i + d = m.length → d < k → s < 4294967296 → latheref05_Most.l0 k (C m) (s : Int) (i : Int) = some ((lp (maxF m) d i s : Nat) : Int)
  | 0, i, s, k, h, hk, hs => by
    obtain ⟨k, rfl⟩ : ∃ j, k = j + 1 := ⟨k - 1, by omega⟩
    rw [latheref05_Most.l0, if_neg (by rw [C_len]; omega)]; rfl
  | d + 1, i, s, k, h, hk, hs => by
    obtain ⟨k, rfl⟩ : ∃ j, k = j + 1 := ⟨k - 1, by omega⟩
    rw [latheref05_Most.l0, if_pos (by rw [C_len]; omega), if_pos (by omega), rd_c, Max_f s _ hs (hp i)]
    simp -implicitDefEqProofs only [Option.bind_some]
    rw [up1 (by omega)]
    exact rMax_l m hm hp d (i + 1) _ k (by omega) (by omega) (fmax_lt hs (hp i))
def allF (m : List Nat) : Nat → Nat → Bool
  | 0, _ => true
  | d + 1, i => decide (rg (m.getD i 0) < 2139095040) && allF m d (i + 1)
theorem tmod_31 (x : Nat) : Int.tmod (x : Int) 2147483648 = ((rg x : Nat) : Int) := by
  rw [Int.tmod_eq_emod_of_nonneg (by omega)]
  unfold rg
  omega
theorem vFin_l (m : List Nat) (hm : m.length ≤ 1048576) (hp : Pats m) : ∀ (d i k : Nat), i + d = m.length → d < k → vector_Finite.l0 k (C m) (m.length : Int) (i : Int) = some (allF m d i)
  | 0, i, k, h, hk => by
    obtain ⟨k, rfl⟩ : ∃ j, k = j + 1 := ⟨k - 1, by omega⟩
    rw [vector_Finite.l0, if_neg (by omega)]; rfl
  | d + 1, i, k, h, hk => by
    obtain ⟨k, rfl⟩ : ∃ j, k = j + 1 := ⟨k - 1, by omega⟩
    rw [vector_Finite.l0, if_pos (by omega), if_pos (by omega), if_pos (by rw [C_len]; omega), rd_c, finite_f _ (hp i)]
    simp -implicitDefEqProofs only [Option.bind_some]
    unfold allF
    by_cases c : rg (m.getD i 0) < 2139095040
    · rw [decide_eq_true c, if_pos rfl, up1 (by omega), vFin_l m hm hp d (i + 1) k (by omega) (by omega)]; rfl
    · rw [decide_eq_false c, if_neg (by decide)]; rfl
theorem rFin_l (m : List Nat) (hm : m.length ≤ 1048576) (hp : Pats m) : ∀ (d i k : Nat), i + d = m.length → d < k → latheref05_Finite.l0 k (C m) (i : Int) = some (allF m d i)
  | 0, i, k, h, hk => by
    obtain ⟨k, rfl⟩ : ∃ j, k = j + 1 := ⟨k - 1, by omega⟩
    rw [latheref05_Finite.l0, if_neg (by rw [C_len]; omega)]; rfl
  | d + 1, i, k, h, hk => by
    obtain ⟨k, rfl⟩ : ∃ j, k = j + 1 := ⟨k - 1, by omega⟩
    rw [latheref05_Finite.l0, if_pos (by rw [C_len]; omega), if_pos (by omega), rd_c]
    unfold latheref05_Finite1.f
    rw [tmod_31]
    simp -implicitDefEqProofs only [Option.bind_some]
    unfold allF
    by_cases c : rg (m.getD i 0) < 2139095040
    · rw [decide_eq_true c, decide_eq_true (by omega), if_pos rfl, up1 (by omega), rFin_l m hm hp d (i + 1) k (by omega) (by omega)]; rfl
    · rw [decide_eq_false c, decide_eq_false (by omega), if_neg (by decide)]; rfl

/-! ### the one NaN -/
theorem rCanon_p (x : Nat) : latheref01_Canon.f x = some ((tl x : Nat) : Int) := by
  unfold latheref01_Canon.f latheref01_Is.f
  rw [tmod_31]
  simp -implicitDefEqProofs only [Option.bind_some]
  by_cases c : 2139095040 < rg x
  · rw [decide_eq_true (by omega), if_pos rfl, tl_nan c]; rfl
  · rw [decide_eq_false (by omega), if_neg (by decide), tl_num (by omega)]
theorem vCanon_p (k x : Nat) (hx : x < 4294967296) (hk : 1 ≤ k) : bits_Canon.f k x = some ((tl x : Nat) : Int) := by
  obtain ⟨k, rfl⟩ : ∃ j, k = j + 1 := ⟨k - 1, by omega⟩
  have hr := rg_lt x
  have e1 : Go.bits .and .u32 ((x : Int) / 8388608) 255 = ((rg x / 8388608 : Nat) : Int) := by
    have := u32_and_nat (x / 8388608) 255 (by omega) (by omega)
    rw [show (255 : Nat) = 2 ^ 8 - 1 from rfl, Nat.and_two_pow_sub_one_eq_mod] at this
    have e : x / 8388608 % 2 ^ 8 = rg x / 8388608 := by unfold rg; omega
    rw [e] at this
    exact this
  have e2 : Go.bits .and .u32 (x : Int) 8388607 = ((rg x % 8388608 : Nat) : Int) := by
    have := u32_and_nat x 8388607 hx (by omega)
    rw [show (8388607 : Nat) = 2 ^ 23 - 1 from rfl, Nat.and_two_pow_sub_one_eq_mod] at this
    have e : x % 2 ^ 23 = rg x % 8388608 := by unfold rg; omega
    rw [e] at this
    exact this
  unfold bits_Canon.f bits_Class.f bits_Parts.f
  simp -implicitDefEqProofs only [Option.bind_some]
  rw [e1, e2, w64 (by omega) (by omega), w64 (by omega) (by omega)]
  have key : (if ((rg x / 8388608 : Nat) : Int) = 0 then bits_Class.j0 (k + 1) ((rg x / 8388608 : Nat) : Int) ((rg x % 8388608 : Nat) : Int) (((rg x % 8388608 : Nat) : Int) == 0) else bits_Class.j0 (k + 1) ((rg x / 8388608 : Nat) : Int) ((rg x % 8388608 : Nat) : Int) false) = some (if 2139095040 < rg x then 5 else if rg x / 8388608 = 0 then (if rg x % 8388608 = 0 then 1 else 2) else if rg x / 8388608 < 255 then 3 else 4) := by
    by_cases z : rg x / 8388608 = 0
    · rw [if_pos (by omega), bits_Class.j0, if_neg (show ¬ 2139095040 < rg x by omega), if_pos z]
      by_cases y : rg x % 8388608 = 0
      · rw [if_pos (by rw [beq_iff_eq]; omega), if_pos y]
      · rw [if_neg (by rw [beq_iff_eq]; omega), if_neg y, if_pos (by omega)]
    · rw [if_neg (by omega), bits_Class.j0, if_neg (by decide), if_neg (by omega)]
      by_cases y : rg x / 8388608 < 255
      · rw [if_pos (by omega), if_neg (show ¬ 2139095040 < rg x by omega), if_neg z, if_pos y]
      · rw [if_neg (by omega)]
        by_cases v : rg x % 8388608 = 0
        · rw [if_pos (by omega), if_neg (show ¬ 2139095040 < rg x by omega), if_neg z, if_neg y]
        · rw [if_neg (by omega), if_pos (show 2139095040 < rg x by omega)]
  rw [key]
  simp -implicitDefEqProofs only [Option.bind_some]
  by_cases c : 2139095040 < rg x
  · rw [if_pos c, if_pos rfl, tl_nan c]; rfl
  · rw [if_neg c, tl_num (by omega), if_neg ?_]
    split
    · split <;> decide
    · split <;> decide
theorem tl_lt2 {a : Nat} (h : a < 4294967296) : tl a < 4294967296 := by
  unfold tl
  split
  · exact h
  · omega
abbrev cn (m : List Nat) : List Nat := m.map tl
theorem getD_cn (m : List Nat) (i : Nat) (h : i < m.length) : (cn m).getD i 0 = tl (m.getD i 0) := by
  simp [cn, List.getD_eq_getElem?_getD, h]
theorem vCan_l (m : List Nat) (hm : m.length ≤ 1048576) (hp : Pats m) : ∀ (d i k : Nat) (acc : List Nat), i + d = m.length → acc.length = i → d + 1 < k → vector_Canon.l0 k (C acc) (C m) (m.length : Int) (i : Int) = some (C (acc ++ cn (m.drop i)))
  | 0, i, k, acc, h, ha, hk => by
    obtain ⟨k, rfl⟩ : ∃ j, k = j + 1 := ⟨k - 1, by omega⟩
    rw [vector_Canon.l0, if_neg (by omega), List.drop_eq_nil_of_le (by omega)]
    simp [cn]
  | d + 1, i, k, acc, h, ha, hk => by
    obtain ⟨k, rfl⟩ : ∃ j, k = j + 1 := ⟨k - 1, by omega⟩
    rw [vector_Canon.l0, if_pos (by omega), if_pos (by omega), if_pos (by rw [C_len]; omega), rd_c, vCanon_p k _ (hp i) (by omega)]
    simp -implicitDefEqProofs only [Option.bind_some]
    rw [if_pos (by rw [C_len]; omega), up1 (by omega)]
    have e : C acc ++ [((tl (m.getD i 0) : Nat) : Int)] = C (acc ++ [tl (m.getD i 0)]) := by rw [C_append]; rfl
    rw [e, vCan_l m hm hp d (i + 1) k (acc ++ [tl (m.getD i 0)]) (by omega) (by simp [ha]) (by omega), drop_cons (show i < m.length by omega), List.append_assoc]
    rfl
theorem rCan_l (m : List Nat) (hm : m.length ≤ 1048576) (hp : Pats m) : ∀ (d i k : Nat) (acc : List Nat), i + d = m.length → acc.length = i → d + 1 < k → latheref05_Canon.l0 k (C m) (C acc) (i : Int) = some (C (acc ++ cn (m.drop i)))
  | 0, i, k, acc, h, ha, hk => by
    obtain ⟨k, rfl⟩ : ∃ j, k = j + 1 := ⟨k - 1, by omega⟩
    rw [latheref05_Canon.l0, if_neg (by rw [C_len]; omega), List.drop_eq_nil_of_le (by omega)]
    simp [cn]
  | d + 1, i, k, acc, h, ha, hk => by
    obtain ⟨k, rfl⟩ : ∃ j, k = j + 1 := ⟨k - 1, by omega⟩
    rw [latheref05_Canon.l0, if_pos (by rw [C_len]; omega), if_pos (by omega), rd_c, rCanon_p]
    simp -implicitDefEqProofs only [Option.bind_some]
    rw [if_pos (by rw [C_len]; omega), up1 (by omega)]
    have e : C acc ++ [((tl (m.getD i 0) : Nat) : Int)] = C (acc ++ [tl (m.getD i 0)]) := by rw [C_append]; rfl
    rw [e, rCan_l m hm hp d (i + 1) k (acc ++ [tl (m.getD i 0)]) (by omega) (by simp [ha]) (by omega), drop_cons (show i < m.length by omega), List.append_assoc]
    rfl
theorem same_l (m : List Nat) (hm : m.length ≤ 1048576) (hp : Pats m) : ∀ (d i k : Nat), i + d = m.length → d < k → lathelaw05_same.l0 k (C m) (C m) (i : Int) = some true
  | 0, i, k, h, hk => by
    obtain ⟨k, rfl⟩ : ∃ j, k = j + 1 := ⟨k - 1, by omega⟩
    rw [lathelaw05_same.l0, if_neg (by rw [C_len]; omega)]
  | d + 1, i, k, h, hk => by
    obtain ⟨k, rfl⟩ : ∃ j, k = j + 1 := ⟨k - 1, by omega⟩
    have := hp i
    rw [lathelaw05_same.l0, if_pos (by rw [C_len]; omega), if_pos (by omega), if_pos (by rw [C_len]; omega), rd_c, w64 (by omega) (by omega), if_pos rfl, up1 (by omega)]
    exact same_l m hm hp d (i + 1) k (by omega) (by omega)
theorem same_p (m : List Nat) (hm : m.length ≤ 1048576) (hp : Pats m) (k : Nat) (hk : m.length < k) : lathelaw05_same.f k (C m) (C m) = some true := by
  unfold lathelaw05_same.f
  rw [if_pos rfl]
  exact same_l m hm hp m.length 0 k (by omega) hk
theorem C_rep (n c : Nat) : C (List.replicate n c) = List.replicate n (c : Int) := by simp [C]
/-- Written cell by cell. -/
theorem vFill_l (x : Nat) (hx : x < 4294967296) (n : Nat) (hn : n ≤ 65536) : ∀ (d i k : Nat), i + d = n → d + 1 < k → vector_Fill.l0 k (x : Int) (C (List.replicate i (tl x) ++ List.replicate d 0)) (n : Int) (i : Int) = some (C (List.replicate n (tl x)), 0)
  | 0, i, k, h, hk => by
    obtain ⟨k, rfl⟩ : ∃ j, k = j + 1 := ⟨k - 1, by omega⟩
    obtain rfl : i = n := by omega
    rw [vector_Fill.l0, if_neg (by omega)]
    simp
  | d + 1, i, k, h, hk => by
    obtain ⟨k, rfl⟩ : ∃ j, k = j + 1 := ⟨k - 1, by omega⟩
    rw [vector_Fill.l0, if_pos (by omega), vCanon_p k x hx (by omega)]
    simp -implicitDefEqProofs only [Option.bind_some]
    have e : (C (List.replicate i (tl x) ++ List.replicate (d + 1) 0)).set ((i : Int)).toNat ((tl x : Nat) : Int) = C (List.replicate (i + 1) (tl x) ++ List.replicate d 0) := by
      rw [Int.toNat_natCast, C_append, List.set_append, if_neg (by rw [C_len, List.length_replicate]; omega), C_len, List.length_replicate, Nat.sub_self, C_append, C_rep, C_rep, C_rep, C_rep, List.replicate_succ, List.set_cons_zero, List.replicate_succ', List.append_assoc]
      rfl
    rw [if_pos (by omega), if_pos (by rw [C_len]; simp; omega), e, up1 (by omega)]
    exact vFill_l x hx n hn d (i + 1) k (by omega) (by omega)
theorem rFill_l (x : Nat) (n : Nat) (hn : n ≤ 65536) : ∀ (d i k : Nat), i + d = n → d + 1 < k → latheref05_Fill.l0 k (n : Int) (x : Int) (C (List.replicate i (tl x))) (i : Int) = some (C (List.replicate n (tl x)), 0)
  | 0, i, k, h, hk => by
    obtain ⟨k, rfl⟩ : ∃ j, k = j + 1 := ⟨k - 1, by omega⟩
    obtain rfl : i = n := by omega
    rw [latheref05_Fill.l0, if_neg (by omega)]
  | d + 1, i, k, h, hk => by
    obtain ⟨k, rfl⟩ : ∃ j, k = j + 1 := ⟨k - 1, by omega⟩
    rw [latheref05_Fill.l0, if_pos (by omega), rCanon_p]
    simp -implicitDefEqProofs only [Option.bind_some]
    have e : C (List.replicate i (tl x)) ++ [((tl x : Nat) : Int)] = C (List.replicate (i + 1) (tl x)) := by
      rw [List.replicate_succ', C_append]; rfl
    rw [if_pos (by rw [C_len]; simp; omega), e, up1 (by omega)]
    exact rFill_l x n hn d (i + 1) k (by omega) (by omega)
theorem fills (x : Nat) (hx : x < 4294967296) (n : Int) (k : Nat) (hk : 70000 ≤ k) : ∃ (l : List Nat) (e : Int), l.length ≤ 1048576 ∧ Pats l ∧ vector_Fill.f k n x = some (C l, e) ∧ latheref05_Fill.f k n x = some (C l, e) := by
  obtain ⟨k, rfl⟩ : ∃ j, k = j + 1 := ⟨k - 1, by omega⟩
  have pn : Pats [] := fun i => by simp
  unfold vector_Fill.f latheref05_Fill.f
  by_cases c : n < 0
  · rw [if_pos c, if_pos c, vector_Fill.j0, latheref05_Fill.j0, if_pos rfl, if_pos rfl]
    exact ⟨[], 1, by simp, pn, rfl, rfl⟩
  · rw [if_neg c, if_neg c, vector_Fill.j0, latheref05_Fill.j0]
    by_cases d : n > 65536
    · rw [decide_eq_true d, if_pos rfl, if_pos rfl]
      exact ⟨[], 1, by simp, pn, rfl, rfl⟩
    · rw [decide_eq_false d, if_neg (show ¬ (false = true) by decide), if_neg (show ¬ (false = true) by decide), if_pos (by omega)]
      obtain ⟨m, rfl⟩ := Int.eq_ofNat_of_zero_le (show 0 ≤ n by omega)
      rw [Int.toNat_natCast, if_pos (by omega)]
      simp -implicitDefEqProofs only [Option.bind_some, List.length_replicate]
      refine ⟨List.replicate m (tl x), 0, by simp; omega, ?_, ?_, ?_⟩
      · intro i
        have := tl_lt2 hx
        simp only [List.getD_eq_getElem?_getD, List.getElem?_replicate]
        split <;> simp <;> omega
      · have := vFill_l x hx m (by omega) m 0 k (by omega) (by omega)
        simpa [C] using this
      · exact rFill_l x m (by omega) m 0 k (by omega) (by omega)
theorem w32 {x : Nat} (h : x < 4294967296) : wrap64 ((x : Nat) : Int) = (x : Int) := w64 (by omega) (by omega)
theorem pat_v {a : Int} (h : (Lit.int .u32 a).wf = true) : ∃ n : Nat, a = n ∧ n < 4294967296 := by
  simp [Lit.wf, IntKind.min, IntKind.max, IntKind.signed, IntKind.bits] at h
  exact ⟨a.toNat, by omega, by omega⟩

theorem VectorEnds (l0 : List Int) (n x0 : Int) (h0 : l0.length ≤ 1048576) (w0 : ∀ x ∈ l0, (Lit.int .u32 x).wf = true) (_wn : (Lit.int .i64 n).wf = true) (wx : (Lit.int .u32 x0).wf = true) : ∃ k, lathelaw05_VectorEnds.f k l0 n x0 = some true := by
  obtain ⟨m, rfl, hp⟩ := of_wf w0
  obtain ⟨x, rfl, hx⟩ := pat_v wx
  rw [C_len] at h0
  obtain ⟨k, hk⟩ : ∃ k, 1048576 + 400 ≤ k := ⟨1048576 + 400, Nat.le_refl _⟩
  refine ⟨k, ?_⟩
  obtain ⟨l, e, l1, l2, f1, f2⟩ := fills x hx n k (by omega)
  have s1 : lp (minF m) m.length 0 2139095040 < 4294967296 := lp_lt' (fun _ i h => fmin_lt h (hp i)) _ _ _ (by omega)
  have s2 : lp (maxF m) m.length 0 4286578688 < 4294967296 := lp_lt' (fun _ i h => fmax_lt h (hp i)) _ _ _ (by omega)
  have r1 : latheref05_Least.f k (C m) = some ((lp (minF m) m.length 0 2139095040 : Nat) : Int) := rMin_l m h0 hp m.length 0 2139095040 k (by omega) (by omega) (by omega)
  have r2 : latheref05_Most.f k (C m) = some ((lp (maxF m) m.length 0 4286578688 : Nat) : Int) := rMax_l m h0 hp m.length 0 4286578688 k (by omega) (by omega) (by omega)
  have v2 : vector_Most.f k (C m) = some ((lp (maxF m) m.length 0 4286578688 : Nat) : Int) := by
    unfold vector_Most.f
    rw [C_len]
    exact vMax_l m h0 m.length 0 4286578688 k (by omega) (by omega)
  have v3 : vector_Finite.f k (C m) = some (allF m m.length 0) := by
    unfold vector_Finite.f
    rw [C_len]
    exact vFin_l m h0 hp m.length 0 k (by omega) (by omega)
  have r3 : latheref05_Finite.f k (C m) = some (allF m m.length 0) := rFin_l m h0 hp m.length 0 k (by omega) (by omega)
  have v4 : vector_Canon.f k (C m) = some (C (cn m)) := by
    unfold vector_Canon.f
    rw [C_len]
    exact vCan_l m h0 hp m.length 0 k [] (by omega) rfl (by omega)
  have r4 : latheref05_Canon.f k (C m) = some (C (cn m)) := rCan_l m h0 hp m.length 0 k [] (by omega) rfl (by omega)
  have pc : Pats (cn m) := fun i => by
    by_cases h : i < m.length
    · rw [getD_cn m i h]; exact tl_lt2 (hp i)
    · simp [List.getD_eq_getElem?_getD, Nat.le_of_not_lt h]
  unfold lathelaw05_VectorEnds.f
  rw [f1, w32 hx, f2, vMin m h0 k (by omega), ints_p m h0 hp k (by omega), v2, v3, v4, sure_p k (by omega)]
  simp -implicitDefEqProofs only [Option.bind_some]
  rw [r1, r2, r3, r4]
  simp -implicitDefEqProofs only [Option.bind_some]
  rw [same_p (cn m) (by simp [cn]; exact h0) pc k (by simp [cn]; omega), same_p l l1 l2 k (by omega), w32 s1, w32 s2]
  simp -implicitDefEqProofs only [Option.bind_some, if_true, beq_self_eq_true]
end Go.Proofs.Ytmfladkimmnccaa.Pure
