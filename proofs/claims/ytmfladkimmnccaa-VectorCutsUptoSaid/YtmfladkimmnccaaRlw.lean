/- Lists: the program's loops and the reference's; Apply's as one. No condition. (Written by wip/rlw.py.) -/
import Derived.Test.YtmfladkimmnccaaRld
import Derived.Test.YtmfladkimmnccaaRle
import Derived.Test.YtmfladkimmnccaaApl
import Derived.Test.YtmfladkimmnccaaPGx1
import Derived.Test.YtmfladkimmnccaaPGx10
import Derived.Test.YtmfladkimmnccaaPGx12
import Derived.Test.YtmfladkimmnccaaPGx13
import Derived.Test.YtmfladkimmnccaaPGx14
import Derived.Test.YtmfladkimmnccaaPGx15
set_option linter.unusedVariables false
set_option linter.unusedSimpArgs false
namespace Go.Proofs.Ytmfladkimmnccaa.Rlw
open Go.RowKit Lathe Go.Proofs.Ytmfladkimmnccaa.PG Go.Proofs.Ytmfladkimmnccaa.Ref Go.Proofs.Ytmfladkimmnccaa.Rla Go.Proofs.Ytmfladkimmnccaa.Rlb Go.Proofs.Ytmfladkimmnccaa.Rlc Go.Proofs.YtmfladkimmnccaaW.PrintWords Go.Proofs.YtmfladkimmnccaaW.PrintMore
open Go.Proofs.Ytmfladkimmnccaa.Rld (Sqrt_f Div_f)
open Go.Proofs.Ytmfladkimmnccaa.Rle (Min_f Max_f Less_f Select_f Abs_f andNot_u32 and_exp fmin_lt fmax_lt fsel_lt)

theorem write_lt (d : Ieee.Datum) : Ieee.single.write d < 4294967296 := Ieee.Format.write_lt Ieee.single d
theorem res_lt {o : Option Ieee.Datum} : res (o.map Ieee.single.write) < 4294967296 := by
  cases o with
  | none => show (2143289344 : Nat) < 4294967296; omega
  | some d => exact write_lt d
theorem fadd_lt (a b : Nat) : fadd a b < 4294967296 := res_lt
theorem fmul_lt (a b : Nat) : fmul a b < 4294967296 := res_lt
theorem fdiv_lt (a b : Nat) : fdiv a b < 4294967296 := res_lt
theorem fsqrt_lt (a : Nat) : fsqrt a < 4294967296 := res_lt
theorem fint_lt (n : Int) : fint n < 4294967296 := write_lt _

/-- A list of patterns as the program's. -/
def C (m : List Nat) : List Int := m.map (fun (n : Nat) => (n : Int))
theorem C_len (m : List Nat) : (C m).length = m.length := by simp [C]
theorem rd_c (m : List Nat) (i : Nat) : rd (C m) (i : Int) = ((m.getD i 0 : Nat) : Int) := by
  unfold rd C
  rw [Int.toNat_natCast]
  simp only [List.getD_eq_getElem?_getD, List.getElem?_map]
  cases m[i]? <;> rfl
def Pats (m : List Nat) : Prop := ∀ i, m.getD i 0 < 4294967296
theorem of_wf {l : List Int} (h : ∀ x ∈ l, (Lit.int .u32 x).wf = true) : ∃ m : List Nat, l = C m ∧ Pats m := by
  have hp : ∀ x ∈ l, 0 ≤ x ∧ x < 4294967296 := fun x hx => by
    have := h x hx
    simp [Lit.wf, IntKind.min, IntKind.max, IntKind.signed, IntKind.bits] at this
    omega
  refine ⟨l.map Int.toNat, ?_, ?_⟩
  · unfold C
    rw [List.map_map]
    conv => lhs; rw [← List.map_id l]
    refine List.map_congr_left (fun x hx => ?_)
    have := hp x hx
    simp only [id, Function.comp]
    omega
  · intro i
    simp only [List.getD_eq_getElem?_getD, List.getElem?_map]
    cases e : l[i]? with
    | none => simp
    | some x =>
      have := hp x (List.mem_of_getElem? e)
      simp only [Option.map_some, Option.getD_some]
      omega

/-- d rounds from i on. -/
def lp (f : Nat → Nat → Nat) : Nat → Nat → Nat → Nat
  | 0, _, s => s
  | d + 1, i, s => lp f d (i + 1) (f s i)
theorem lp_lt {f : Nat → Nat → Nat} (h : ∀ s i, f s i < 4294967296) : ∀ (d i s : Nat), s < 4294967296 → lp f d i s < 4294967296
  | 0, _, s, hs => hs
  | d + 1, i, s, _ => lp_lt h d (i + 1) _ (h _ _)

theorem up1 {i : Nat} (h : i ≤ 1048576) : wrap64 ((i : Int) + 1) = ((i + 1 : Nat) : Int) := by
  rw [w64 (by omega) (by omega)]; omega
theorem add_p (a b : Nat) : float_Add.f a b = some ((fadd a b : Nat) : Int) := by unfold float_Add.f; simp only [Int.toNat_natCast]
theorem mul_p (a b : Nat) : float_Mul.f a b = some ((fmul a b : Nat) : Int) := by unfold float_Mul.f; simp only [Int.toNat_natCast]
theorem min_p (a b : Nat) : float_Min.f a b = some ((fmin a b : Nat) : Int) := by unfold float_Min.f; simp only [Int.toNat_natCast]

abbrev sumF (m : List Nat) (s i : Nat) : Nat := fadd s (m.getD i 0)
abbrev sqF (m : List Nat) (s i : Nat) : Nat := fadd s (fmul (m.getD i 0) (m.getD i 0))
abbrev minF (m : List Nat) (s i : Nat) : Nat := fmin s (m.getD i 0)

theorem vSum_l (m : List Nat) (hm : m.length ≤ 1048576) : ∀ (d i s k : Nat), i + d = m.length → d < k → vector_Sum.l0 k (s : Int) (C m) (m.length : Int) (i : Int) = some ((lp (sumF m) d i s : Nat) : Int)
  | 0, i, s, k, h, hk => by
    obtain ⟨k, rfl⟩ : ∃ j, k = j + 1 := ⟨k - 1, by omega⟩
    rw [vector_Sum.l0, if_neg (by omega)]; rfl
  | d + 1, i, s, k, h, hk => by
    obtain ⟨k, rfl⟩ : ∃ j, k = j + 1 := ⟨k - 1, by omega⟩
    rw [vector_Sum.l0, if_pos (by omega), if_pos (by omega), if_pos (by rw [C_len]; omega), rd_c, add_p]
    simp -implicitDefEqProofs only [Option.bind_some]
    rw [up1 (by omega)]
    exact vSum_l m hm d (i + 1) _ k (by omega) (by omega)
theorem vSum (m : List Nat) (hm : m.length ≤ 1048576) (k : Nat) (hk : m.length < k) : vector_Sum.f k (C m) = some ((lp (sumF m) m.length 0 0 : Nat) : Int) := by
  unfold vector_Sum.f
  rw [C_len]
  exact vSum_l m hm m.length 0 0 k (by omega) hk
theorem vSq_l (m : List Nat) (hm : m.length ≤ 1048576) : ∀ (d i s k : Nat), i + d = m.length → d < k → vector_Squares.l0 k (s : Int) (C m) (m.length : Int) (i : Int) = some ((lp (sqF m) d i s : Nat) : Int)
  | 0, i, s, k, h, hk => by
    obtain ⟨k, rfl⟩ : ∃ j, k = j + 1 := ⟨k - 1, by omega⟩
    rw [vector_Squares.l0, if_neg (by omega)]; rfl
  | d + 1, i, s, k, h, hk => by
    obtain ⟨k, rfl⟩ : ∃ j, k = j + 1 := ⟨k - 1, by omega⟩
    rw [vector_Squares.l0, if_pos (by omega), if_pos (by omega), if_pos (by rw [C_len]; omega), rd_c, mul_p]
    simp -implicitDefEqProofs only [Option.bind_some]
    rw [add_p]
    simp -implicitDefEqProofs only [Option.bind_some]
    rw [up1 (by omega)]
    exact vSq_l m hm d (i + 1) _ k (by omega) (by omega)
theorem vSq (m : List Nat) (hm : m.length ≤ 1048576) (k : Nat) (hk : m.length < k) : vector_Squares.f k (C m) = some ((lp (sqF m) m.length 0 0 : Nat) : Int) := by
  unfold vector_Squares.f
  rw [C_len]
  exact vSq_l m hm m.length 0 0 k (by omega) hk
theorem vMin_l (m : List Nat) (hm : m.length ≤ 1048576) : ∀ (d i s k : Nat), i + d = m.length → d < k → vector_Least.l0 k (s : Int) (C m) (m.length : Int) (i : Int) = some ((lp (minF m) d i s : Nat) : Int)
  | 0, i, s, k, h, hk => by
    obtain ⟨k, rfl⟩ : ∃ j, k = j + 1 := ⟨k - 1, by omega⟩
    rw [vector_Least.l0, if_neg (by omega)]; rfl
  | d + 1, i, s, k, h, hk => by
    obtain ⟨k, rfl⟩ : ∃ j, k = j + 1 := ⟨k - 1, by omega⟩
    rw [vector_Least.l0, if_pos (by omega), if_pos (by omega), if_pos (by rw [C_len]; omega), rd_c, min_p]
    simp -implicitDefEqProofs only [Option.bind_some]
    rw [up1 (by omega)]
    exact vMin_l m hm d (i + 1) _ k (by omega) (by omega)
theorem vMin (m : List Nat) (hm : m.length ≤ 1048576) (k : Nat) (hk : m.length < k) : vector_Least.f k (C m) = some ((lp (minF m) m.length 0 2139095040 : Nat) : Int) := by
  unfold vector_Least.f
  rw [C_len]
  exact vMin_l m hm m.length 0 2139095040 k (by omega) hk

theorem C_append (a b : List Nat) : C (a ++ b) = C a ++ C b := by simp [C]
theorem drop_cons {m : List Nat} {i : Nat} (h : i < m.length) : m.drop i = m.getD i 0 :: m.drop (i + 1) := by
  rw [List.drop_eq_getElem_cons h]
  simp [List.getD_eq_getElem?_getD, h]
theorem ints_l (m : List Nat) (hm : m.length ≤ 1048576) (hp : Pats m) : ∀ (d i k : Nat) (acc : List Nat), i + d = m.length → acc.length = i → d < k → lathelaw05_ints.l0 k (C m) (C acc) (i : Int) = some (C (acc ++ m.drop i))
  | 0, i, k, acc, h, ha, hk => by
    obtain ⟨k, rfl⟩ : ∃ j, k = j + 1 := ⟨k - 1, by omega⟩
    rw [lathelaw05_ints.l0, if_neg (by rw [C_len]; omega), List.drop_eq_nil_of_le (by omega), List.append_nil]
  | d + 1, i, k, acc, h, ha, hk => by
    obtain ⟨k, rfl⟩ : ∃ j, k = j + 1 := ⟨k - 1, by omega⟩
    have := hp i
    rw [lathelaw05_ints.l0, if_pos (by rw [C_len]; omega), if_pos (by omega), if_pos (by rw [C_len]; omega), rd_c, w64 (by omega) (by omega), up1 (by omega)]
    have e : C acc ++ [((m.getD i 0 : Nat) : Int)] = C (acc ++ [m.getD i 0]) := by rw [C_append]; rfl
    rw [e, ints_l m hm hp d (i + 1) k (acc ++ [m.getD i 0]) (by omega) (by simp [ha]) (by omega), drop_cons (show i < m.length by omega), List.append_assoc]
    rfl
theorem ints_p (m : List Nat) (hm : m.length ≤ 1048576) (hp : Pats m) (k : Nat) (hk : m.length < k) : lathelaw05_ints.f k (C m) = some (C m) := by
  unfold lathelaw05_ints.f
  have := ints_l m hm hp m.length 0 k [] (by omega) rfl hk
  simpa [C] using this

theorem tmod_31 (x : Nat) : Int.tmod (x : Int) 2147483648 = ((rg x : Nat) : Int) := by
  rw [Int.tmod_eq_emod_of_nonneg (by omega)]
  unfold rg
  omega
theorem rCanon_p (x : Nat) : latheref01_Canon.f x = some ((tl x : Nat) : Int) := by
  unfold latheref01_Canon.f latheref01_Is.f
  rw [tmod_31]
  simp -implicitDefEqProofs only [Option.bind_some]
  by_cases c : 2139095040 < rg x
  · rw [decide_eq_true (by omega), if_pos rfl, tl_nan c]; rfl
  · rw [decide_eq_false (by omega), if_neg (by decide), tl_num (by omega)]
theorem vCanon_p (k x : Nat) (hx : x < 4294967296) (hk : 1 ≤ k) : bits_Canon.f k x = some ((tl x : Nat) : Int) := by
  obtain ⟨k, rfl⟩ : ∃ j, k = j + 1 := ⟨k - 1, by omega⟩
  have hr := rg_lt x
  have e1 : Go.bits .and .u32 ((x : Int) / 8388608) 255 = ((rg x / 8388608 : Nat) : Int) := by
    have := u32_and_nat (x / 8388608) 255 (by omega) (by omega)
    rw [show (255 : Nat) = 2 ^ 8 - 1 from rfl, Nat.and_two_pow_sub_one_eq_mod] at this
    have e : x / 8388608 % 2 ^ 8 = rg x / 8388608 := by unfold rg; omega
    rw [e] at this
    exact this
  have e2 : Go.bits .and .u32 (x : Int) 8388607 = ((rg x % 8388608 : Nat) : Int) := by
    have := u32_and_nat x 8388607 hx (by omega)
    rw [show (8388607 : Nat) = 2 ^ 23 - 1 from rfl, Nat.and_two_pow_sub_one_eq_mod] at this
    have e : x % 2 ^ 23 = rg x % 8388608 := by unfold rg; omega
    rw [e] at this
    exact this
  unfold bits_Canon.f bits_Class.f bits_Parts.f
  simp -implicitDefEqProofs only [Option.bind_some]
  rw [e1, e2, w64 (by omega) (by omega), w64 (by omega) (by omega)]
  have key : (if ((rg x / 8388608 : Nat) : Int) = 0 then bits_Class.j0 (k + 1) ((rg x / 8388608 : Nat) : Int) ((rg x % 8388608 : Nat) : Int) (((rg x % 8388608 : Nat) : Int) == 0) else bits_Class.j0 (k + 1) ((rg x / 8388608 : Nat) : Int) ((rg x % 8388608 : Nat) : Int) false) = some (if 2139095040 < rg x then 5 else if rg x / 8388608 = 0 then (if rg x % 8388608 = 0 then 1 else 2) else if rg x / 8388608 < 255 then 3 else 4) := by
    by_cases z : rg x / 8388608 = 0
    · rw [if_pos (by omega), bits_Class.j0, if_neg (show ¬ 2139095040 < rg x by omega), if_pos z]
      by_cases y : rg x % 8388608 = 0
      · rw [if_pos (by rw [beq_iff_eq]; omega), if_pos y]
      · rw [if_neg (by rw [beq_iff_eq]; omega), if_neg y, if_pos (by omega)]
    · rw [if_neg (by omega), bits_Class.j0, if_neg (by decide), if_neg (by omega)]
      by_cases y : rg x / 8388608 < 255
      · rw [if_pos (by omega), if_neg (show ¬ 2139095040 < rg x by omega), if_neg z, if_pos y]
      · rw [if_neg (by omega)]
        by_cases v : rg x % 8388608 = 0
        · rw [if_pos (by omega), if_neg (show ¬ 2139095040 < rg x by omega), if_neg z, if_neg y]
        · rw [if_neg (by omega), if_pos (show 2139095040 < rg x by omega)]
  rw [key]
  simp -implicitDefEqProofs only [Option.bind_some]
  by_cases c : 2139095040 < rg x
  · rw [if_pos c, if_pos rfl, tl_nan c]; rfl
  · rw [if_neg c, tl_num (by omega), if_neg ?_]
    split
    · split <;> decide
    · split <;> decide
theorem tl_lt2 {a : Nat} (h : a < 4294967296) : tl a < 4294967296 := by
  unfold tl
  split
  · exact h
  · omega
abbrev cn (m : List Nat) : List Nat := m.map tl
theorem getD_cn (m : List Nat) (i : Nat) (h : i < m.length) : (cn m).getD i 0 = tl (m.getD i 0) := by
  simp [cn, List.getD_eq_getElem?_getD, h]
theorem vCan_l (m : List Nat) (hm : m.length ≤ 1048576) (hp : Pats m) : ∀ (d i k : Nat) (acc : List Nat), i + d = m.length → acc.length = i → d + 1 < k → vector_Canon.l0 k (C acc) (C m) (m.length : Int) (i : Int) = some (C (acc ++ cn (m.drop i)))
  | 0, i, k, acc, h, ha, hk => by
    obtain ⟨k, rfl⟩ : ∃ j, k = j + 1 := ⟨k - 1, by omega⟩
    rw [vector_Canon.l0, if_neg (by omega), List.drop_eq_nil_of_le (by omega)]
    simp [cn]
  | d + 1, i, k, acc, h, ha, hk => by
    obtain ⟨k, rfl⟩ : ∃ j, k = j + 1 := ⟨k - 1, by omega⟩
    rw [vector_Canon.l0, if_pos (by omega), if_pos (by omega), if_pos (by rw [C_len]; omega), rd_c, vCanon_p k _ (hp i) (by omega)]
    simp -implicitDefEqProofs only [Option.bind_some]
    rw [if_pos (by rw [C_len]; omega), up1 (by omega)]
    have e : C acc ++ [((tl (m.getD i 0) : Nat) : Int)] = C (acc ++ [tl (m.getD i 0)]) := by rw [C_append]; rfl
    rw [e, vCan_l m hm hp d (i + 1) k (acc ++ [tl (m.getD i 0)]) (by omega) (by simp [ha]) (by omega), drop_cons (show i < m.length by omega), List.append_assoc]
    rfl
theorem same_l (m : List Nat) (hm : m.length ≤ 1048576) (hp : Pats m) : ∀ (d i k : Nat), i + d = m.length → d < k → lathelaw05_same.l0 k (C m) (C m) (i : Int) = some true
  | 0, i, k, h, hk => by
    obtain ⟨k, rfl⟩ : ∃ j, k = j + 1 := ⟨k - 1, by omega⟩
    rw [lathelaw05_same.l0, if_neg (by rw [C_len]; omega)]
  | d + 1, i, k, h, hk => by
    obtain ⟨k, rfl⟩ : ∃ j, k = j + 1 := ⟨k - 1, by omega⟩
    have := hp i
    rw [lathelaw05_same.l0, if_pos (by rw [C_len]; omega), if_pos (by omega), if_pos (by rw [C_len]; omega), rd_c, w64 (by omega) (by omega), if_pos rfl, up1 (by omega)]
    exact same_l m hm hp d (i + 1) k (by omega) (by omega)
theorem same_p (m : List Nat) (hm : m.length ≤ 1048576) (hp : Pats m) (k : Nat) (hk : m.length < k) : lathelaw05_same.f k (C m) (C m) = some true := by
  unfold lathelaw05_same.f
  rw [if_pos rfl]
  exact same_l m hm hp m.length 0 k (by omega) hk
def CC (ms : List (List Nat)) : List (List Int) := ms.map C
theorem CC_len (ms : List (List Nat)) : (CC ms).length = ms.length := by simp [CC]
theorem getD_cc (ms : List (List Nat)) (i : Nat) : (CC ms).getD i [] = C (ms.getD i []) := by
  unfold CC
  simp only [List.getD_eq_getElem?_getD, List.getElem?_map]
  cases ms[i]? <;> rfl
theorem rd_L1_c (ms : List (List Nat)) (i : Nat) : rd_L1 (CC ms) (i : Int) = C (ms.getD i []) := by
  unfold rd_L1
  rw [Int.toNat_natCast, getD_cc]
theorem rd_L3_c (ms : List (List Nat)) (i : Nat) : rd_L3 (CC ms) (i : Int) = C (ms.getD i []) := by
  unfold rd_L3
  rw [Int.toNat_natCast, getD_cc]
def All (ms : List (List Nat)) : Prop := ∀ i, (ms.getD i []).length ≤ 1048576 ∧ Pats (ms.getD i [])
theorem CC_app (a b : List (List Nat)) : CC (a ++ b) = CC a ++ CC b := by simp [CC]
theorem drop_cons' {ms : List (List Nat)} {i : Nat} (h : i < ms.length) : ms.drop i = ms.getD i [] :: ms.drop (i + 1) := by
  rw [List.drop_eq_getElem_cons h]
  simp [List.getD_eq_getElem?_getD, h]
theorem lists_l (ms : List (List Nat)) (hm : ms.length ≤ 1048576) (ha : All ms) : ∀ (d i k : Nat) (acc : List (List Nat)), i + d = ms.length → acc.length = i → d + 1048576 + 100 < k → lathelaw05_lists.l0 k (CC ms) (CC acc) (i : Int) = some (CC (acc ++ ms.drop i))
  | 0, i, k, acc, h, hl, hk => by
    obtain ⟨k, rfl⟩ : ∃ j, k = j + 1 := ⟨k - 1, by omega⟩
    rw [lathelaw05_lists.l0, if_neg (by rw [CC_len]; omega), List.drop_eq_nil_of_le (by omega), List.append_nil]
  | d + 1, i, k, acc, h, hl, hk => by
    obtain ⟨k, rfl⟩ : ∃ j, k = j + 1 := ⟨k - 1, by omega⟩
    have := (ha i).1
    rw [lathelaw05_lists.l0, if_pos (by rw [CC_len]; omega), if_pos (by omega), rd_L1_c, ints_p _ (ha i).1 (ha i).2 k (by omega)]
    simp -implicitDefEqProofs only [Option.bind_some]
    rw [if_pos (by rw [CC_len]; omega), up1 (by omega)]
    have e : CC acc ++ [C (ms.getD i [])] = CC (acc ++ [ms.getD i []]) := by rw [CC_app]; rfl
    rw [e, lists_l ms hm ha d (i + 1) k (acc ++ [ms.getD i []]) (by omega) (by simp [hl]) (by omega), drop_cons' (show i < ms.length by omega), List.append_assoc]
    rfl

theorem sure_p (k : Nat) (hk : 10 ≤ k) : lathelaw05_sure.f k = some true := by
  unfold lathelaw05_sure.f
  have a1 : vector_Apply.f 4 [[1065353216, 1073741824], [1065353216]] = some ([1073741824, 1077936128], 0) := by unfold vector_Apply.f; decide +kernel
  have a2 : vector_Apply.f 19 [[1065353216]] = some ([], 1) := by unfold vector_Apply.f; decide +kernel
  rw [a1, a2]
  have s1 := vSum [1073741824, 1077936128] (by decide) k (by show 2 < k; omega)
  have s2 := vMin [] (by decide) k (by show 0 < k; omega)
  have s3 := vSq [1073741824] (by decide) k (by show 1 < k; omega)
  have e1 : lp (sumF [1073741824, 1077936128]) 2 0 0 = 1084227584 := by decide +kernel
  have e3 : lp (sqF [1073741824]) 1 0 0 = 1082130432 := by decide +kernel
  have s1 : vector_Sum.f k [1073741824, 1077936128] = some 1084227584 := by
    have := s1
    rw [show [1073741824, 1077936128].length = 2 from rfl, e1] at this
    exact this
  have s2 : vector_Least.f k [] = some 2139095040 := s2
  have s3 : vector_Squares.f k [1073741824] = some 1082130432 := by
    have := s3
    rw [show [1073741824].length = 1 from rfl, e3] at this
    exact this
  simp -implicitDefEqProofs only [Option.bind_some, List.length_cons, List.length_nil]
  rw [if_pos (by decide), if_pos (by decide), if_pos (by decide), if_pos (by decide), if_pos (by decide), if_pos (by decide), if_pos (by decide), s1]
  simp -implicitDefEqProofs only [Option.bind_some]
  rw [if_pos (by decide), s2]
  simp -implicitDefEqProofs only [Option.bind_some]
  rw [if_pos (by decide), s3]
  rfl
theorem can_p (x : Nat) (hx : x < 4294967296) : Ker.can (x : Int) = ((tl x : Nat) : Int) := by
  have hr := rg_lt x
  have e1 : Go.bits .and .u32 ((x : Int) / 8388608) 255 = ((rg x / 8388608 : Nat) : Int) := by
    have := u32_and_nat (x / 8388608) 255 (by omega) (by omega)
    rw [show (255 : Nat) = 2 ^ 8 - 1 from rfl, Nat.and_two_pow_sub_one_eq_mod] at this
    have e : x / 8388608 % 2 ^ 8 = rg x / 8388608 := by unfold rg; omega
    rw [e] at this
    exact this
  have e2 : Go.bits .and .u32 (x : Int) 8388607 = ((rg x % 8388608 : Nat) : Int) := by
    have := u32_and_nat x 8388607 hx (by omega)
    rw [show (8388607 : Nat) = 2 ^ 23 - 1 from rfl, Nat.and_two_pow_sub_one_eq_mod] at this
    have e : x % 2 ^ 23 = rg x % 8388608 := by unfold rg; omega
    rw [e] at this
    exact this
  have hc : Ker.cls (x : Int) = 5 ↔ 2139095040 < rg x := by
    unfold Ker.cls Ker.pe Ker.pf
    rw [e1, e2, w64 (by omega) (by omega), w64 (by omega) (by omega)]
    clear e1 e2
    by_cases z : ((rg x / 8388608 : Nat) : Int) = 0
    · rw [if_pos z]
      split <;> omega
    · rw [if_neg z]
      by_cases y : ((rg x / 8388608 : Nat) : Int) < 255
      · rw [if_pos y]
        omega
      · rw [if_neg y]
        split <;> omega
  unfold Ker.can
  by_cases c : 2139095040 < rg x
  · rw [if_pos (hc.2 c), tl_nan c]; rfl
  · rw [if_neg (fun h => c (hc.1 h)), tl_num (by omega)]
theorem flag_p (b : Bool) : latheref05_Flag.f b = some (Ker.flg b) := by
  unfold latheref05_Flag.f Ker.flg
  split <;> rfl
theorem fin_p (x : Nat) (hx : x < 4294967296) : latheref05_Finite1.f x = some (Ker.fin (x : Int)) := by
  unfold latheref05_Finite1.f Ker.fin
  rw [tmod_31]
  have h := u32_and_nat x 2139095040 hx (by omega)
  have e : Go.bits .and .u32 (x : Int) 2139095040 = ((rg x / 8388608 * 8388608 : Nat) : Int) := by rw [← and_exp]; exact h
  rw [e]
  have hr := rg_lt x
  refine congrArg some ?_
  clear h e
  by_cases c : rg x < 2139095040
  · rw [decide_eq_true (by omega)]
    exact (bne_iff_ne.mpr (by omega)).symm
  · rw [decide_eq_false (by omega)]
    exact (bne_eq_false_iff_eq.mpr (by omega)).symm
theorem Do_f (op : Int) (x y z : Nat) (hx : x < 4294967296) (hy : y < 4294967296) (hz : z < 4294967296) : latheref05_Do.f 400 op x y z = some (Ker.doF op x y z) := by
  unfold latheref05_Do.f Ker.doF
  simp only [Int.toNat_natCast]
  rw [rCanon_p, Sqrt_f 400 x hx (by omega), Neg_f x hx, Abs_f x hx, fin_p x hx, Add_f 400 x y hx hy (by omega), Sub_f 400 x y hx hy (by omega), Mul_f 400 x y hx hy (by omega), Div_f 400 x y hx hy (by omega), Min_f x y hx hy, Max_f x y hx hy, Less_f 400 x y hx hy (by omega), Select_f 400 x y z hx hy hz (by omega), can_p x hx, andNot_u32 x hx]
  simp -implicitDefEqProofs only [Option.bind_some, Int.toNat_natCast]
  rw [flag_p, flag_p]
  simp -implicitDefEqProofs only [Option.bind_some]
  unfold fabs
  by_cases h3 : op = 3
  · rw [if_pos h3, if_pos h3]
  rw [if_neg h3, if_neg h3]
  by_cases h11 : op = 11
  · rw [if_pos h11, if_pos h11]
  rw [if_neg h11, if_neg h11]
  by_cases h12 : op = 12
  · rw [if_pos h12, if_pos h12]
  rw [if_neg h12, if_neg h12]
  by_cases h13 : op = 13
  · rw [if_pos h13, if_pos h13]
  rw [if_neg h13, if_neg h13]
  by_cases h14 : op = 14
  · rw [if_pos h14, if_pos h14]
  rw [if_neg h14, if_neg h14]
  by_cases h4 : op = 4
  · rw [if_pos h4, if_pos h4]
  rw [if_neg h4, if_neg h4]
  by_cases h5 : op = 5
  · rw [if_pos h5, if_pos h5]
  rw [if_neg h5, if_neg h5]
  by_cases h6 : op = 6
  · rw [if_pos h6, if_pos h6]
  rw [if_neg h6, if_neg h6]
  by_cases h7 : op = 7
  · rw [if_pos h7, if_pos h7]
  rw [if_neg h7, if_neg h7]
  by_cases h8 : op = 8
  · rw [if_pos h8, if_pos h8]
  rw [if_neg h8, if_neg h8]
  by_cases h9 : op = 9
  · rw [if_pos h9, if_pos h9]
  rw [if_neg h9, if_neg h9]
  by_cases h10 : op = 10
  · rw [if_pos h10, if_pos h10]
  rw [if_neg h10, if_neg h10]
/-! ### Apply: the program's and the reference's -/
open Apl Sur PG.Rap
theorem rows_cc (ms : List (List Nat)) (j : Int) : rows (CC ms) j = C (ms.getD j.toNat []) := by
  unfold rows
  rw [getD_cc]
theorem rd_nat (m : List Nat) (i : Int) : rd (C m) i = ((m.getD i.toNat 0 : Nat) : Int) := by
  unfold rd C
  simp only [List.getD_eq_getElem?_getD, List.getElem?_map]
  cases m[i.toNat]? <;> rfl
theorem xr_nat (ms : List (List Nat)) (ha : All ms) (i n j : Int) : ∃ x : Nat, x < 4294967296 ∧ xr (CC ms) i n j = (x : Int) := by
  unfold xr er
  rw [rows_cc, rd_nat, rd_nat]
  have h := (ha j.toNat).2
  split
  · split
    · exact ⟨_, h _, rfl⟩
    · exact ⟨_, h _, rfl⟩
  · exact ⟨0, by omega, rfl⟩
theorem fsel_lt' {a b : Nat} (c : Nat) (ha : a < 4294967296) (hb : b < 4294967296) : fsel c a b < 4294967296 := fsel_lt c ha hb
theorem fsub_lt (a b : Nat) : fsub a b < 4294967296 := res_lt
theorem doF_nat (op : Int) (x y z : Nat) (hx : x < 4294967296) (hy : y < 4294967296) (hz : z < 4294967296) : ∃ n : Nat, n < 4294967296 ∧ Ker.doF op x y z = (n : Int) := by
  have fl : ∀ b, ∃ n : Nat, n < 4294967296 ∧ Ker.flg b = (n : Int) := fun b => by cases b; (exact ⟨0, by omega, rfl⟩); (exact ⟨1065353216, by omega, rfl⟩)
  unfold Ker.doF
  rw [Int.toNat_natCast x, Int.toNat_natCast y, Int.toNat_natCast z, can_p x hx, andNot_u32 x hx, Int.toNat_natCast (rg x)]
  by_cases h3 : op = 3
  · rw [if_pos h3]
    exact ⟨_, tl_lt2 hx, rfl⟩
  rw [if_neg h3]
  by_cases h11 : op = 11
  · rw [if_pos h11]
    exact ⟨_, fsqrt_lt _, rfl⟩
  rw [if_neg h11]
  by_cases h12 : op = 12
  · rw [if_pos h12]
    exact ⟨_, fneg_lt hx, rfl⟩
  rw [if_neg h12]
  by_cases h13 : op = 13
  · rw [if_pos h13]
    exact ⟨_, tl_lt2 (by have := rg_lt x; omega), rfl⟩
  rw [if_neg h13]
  by_cases h14 : op = 14
  · rw [if_pos h14]
    exact fl _
  rw [if_neg h14]
  by_cases h4 : op = 4
  · rw [if_pos h4]
    exact ⟨_, fadd_lt _ _, rfl⟩
  rw [if_neg h4]
  by_cases h5 : op = 5
  · rw [if_pos h5]
    exact ⟨_, fsub_lt _ _, rfl⟩
  rw [if_neg h5]
  by_cases h6 : op = 6
  · rw [if_pos h6]
    exact ⟨_, fmul_lt _ _, rfl⟩
  rw [if_neg h6]
  by_cases h7 : op = 7
  · rw [if_pos h7]
    exact ⟨_, fdiv_lt _ _, rfl⟩
  rw [if_neg h7]
  by_cases h8 : op = 8
  · rw [if_pos h8]
    exact ⟨_, fmin_lt hx hy, rfl⟩
  rw [if_neg h8]
  by_cases h9 : op = 9
  · rw [if_pos h9]
    exact ⟨_, fmax_lt hx hy, rfl⟩
  rw [if_neg h9]
  by_cases h10 : op = 10
  · rw [if_pos h10]
    exact fl _
  rw [if_neg h10]
  exact ⟨_, fsel_lt _ hy hz, rfl⟩
theorem dof_p (ms : List (List Nat)) (ha : All ms) (op i : Int) : dof op (CC ms) i = some (Ker.doF op (xr (CC ms) i ((CC ms).length : Int) 0) (xr (CC ms) i ((CC ms).length : Int) 1) (xr (CC ms) i ((CC ms).length : Int) 2)) := by
  unfold dof
  obtain ⟨x, hx, ex⟩ := xr_nat ms ha i ((CC ms).length : Int) 0
  obtain ⟨y, hy, ey⟩ := xr_nat ms ha i ((CC ms).length : Int) 1
  obtain ⟨z, hz, ez⟩ := xr_nat ms ha i ((CC ms).length : Int) 2
  rw [ex, ey, ez]
  exact Do_f op x y z hx hy hz
theorem xk_xr (l : List (List Int)) (i : Nat) (s : Int) (hf : ∀ j : Int, 0 ≤ j → j < (l.length : Int) → fits s (rows l j)) (hi : (i : Int) < s) (j : Int) (h0 : 0 ≤ j) : xk l (i : Int) (l.length : Int) j = xr l (i : Int) (l.length : Int) j := by
  unfold xk xr
  by_cases c : j < (l.length : Int)
  · rw [if_pos c, if_pos c]
    unfold el er
    have h := hf j h0 c
    generalize rows l j = a at h ⊢
    have e : Int.tmod (i : Int) (a.length : Int) = ((i % a.length : Nat) : Int) := rfl
    rw [e]
    by_cases c1 : (a.length : Int) = 1
    · rw [if_pos c1]
      have : a.length = 1 := by omega
      rw [this, Nat.mod_one]
      rfl
    · rw [if_neg c1]
      have h2 : (a.length : Int) = s := by rcases h with h | ⟨h, _⟩ <;> omega
      rw [Nat.mod_eq_of_lt (by omega)]
  · rw [if_neg c, if_neg c]
theorem outs_outr (ms : List (List Nat)) (ha : All ms) (op s : Int) (hf : ∀ j : Int, 0 ≤ j → j < ((CC ms).length : Int) → fits s (rows (CC ms) j)) : ∀ n : Nat, (n : Int) ≤ s → outs op (CC ms) n = outr op (CC ms) n
  | 0, _ => rfl
  | n + 1, h => by
    rw [outs, outr, outs_outr ms ha op s hf n (by omega), dof_p ms ha, xk_xr _ n s hf (by omega) 0 (by omega), xk_xr _ n s hf (by omega) 1 (by omega), xk_xr _ n s hf (by omega) 2 (by omega)]
    rfl
theorem outs_nat (ms : List (List Nat)) (ha : All ms) (op : Int) : ∀ n : Nat, ∃ m : List Nat, outr op (CC ms) n = C m ∧ Pats m ∧ m.length = n
  | 0 => ⟨[], rfl, fun i => by simp, rfl⟩
  | n + 1 => by
    obtain ⟨m, e, hp, hl⟩ := outs_nat ms ha op n
    obtain ⟨x, hx, ex⟩ := xr_nat ms ha n ((CC ms).length : Int) 0
    obtain ⟨y, hy, ey⟩ := xr_nat ms ha n ((CC ms).length : Int) 1
    obtain ⟨z, hz, ez⟩ := xr_nat ms ha n ((CC ms).length : Int) 2
    obtain ⟨v, hv, ev⟩ := doF_nat op x y z hx hy hz
    refine ⟨m ++ [v], ?_, fun i => ?_, by simp [hl]⟩
    · rw [outr, e, dof_p ms ha, ex, ey, ez, ev, C_append]
      rfl
    · by_cases c : i < m.length
      · rw [List.getD_eq_getElem?_getD, List.getElem?_append_left c, ← List.getD_eq_getElem?_getD]
        exact hp i
      · rw [List.getD_eq_getElem?_getD, List.getElem?_append_right (by omega)]
        by_cases c2 : i - m.length = 0
        · rw [c2]; exact hv
        · rw [List.getElem?_eq_none (by simp; omega)]; exact Nat.zero_lt_succ _
theorem szs_le (l : List (List Int)) (h : ∀ x ∈ l, x.length ≤ 1048576) : szs l ≤ 1048576 := by
  have key : ∀ (l : List (List Int)) (s : Int), (∀ x ∈ l, x.length ≤ 1048576) → s ≤ 1048576 → l.foldl (fun s a => if (a.length : Int) = 1 then s else (a.length : Int)) s ≤ 1048576 := by
    intro l
    induction l with
    | nil => intro s _ h; exact h
    | cons a l ih =>
      intro s hl h
      rw [List.foldl_cons]
      have := hl a List.mem_cons_self
      exact ih _ (fun x hx => hl x (List.mem_cons_of_mem _ hx)) (by split <;> omega)
  exact key l 1 h (by decide)
theorem szr_le (l : List (List Int)) (h : ∀ x ∈ l, x.length ≤ 1048576) : szr l ≤ 1048576 := by
  have key : ∀ (l : List (List Int)) (s : Int), (∀ x ∈ l, x.length ≤ 1048576) → s ≤ 1048576 → l.foldl szstep s ≤ 1048576 := by
    intro l
    induction l with
    | nil => intro s _ h; exact h
    | cons a l ih =>
      intro s hl h
      rw [List.foldl_cons]
      have := hl a List.mem_cons_self
      exact ih _ (fun x hx => hl x (List.mem_cons_of_mem _ hx)) (by unfold szstep; split <;> omega)
  refine key l _ h ?_
  unfold rows
  cases l with
  | nil => decide
  | cons a l => have := h a List.mem_cons_self; show (a.length : Int) ≤ 1048576; omega
theorem fit_same (l : List (List Int)) (h1 : 1 ≤ l.length) (h3 : l.length ≤ 3) : (l.all (fitb (szs l)) = true ↔ l.all (fitrb (szr l)) = true) ∧ (l.all (fitb (szs l)) = true → szs l = szr l) := by
  match l, h1, h3 with
  | [a], _, _ =>
    simp only [List.all_cons, List.all_nil, Bool.and_true, fitb_iff, fitrb_iff]
    unfold fits fitr szs szr szstep rows
    simp only [List.foldl, List.getD_cons_zero, Int.toNat_zero]
    have ha : 0 ≤ (a.length : Int) := by omega
    generalize (a.length : Int) = x at ha ⊢
    by_cases x1 : x = 1 <;> by_cases x0 : x = 0 <;> simp [x1, x0]
  | [a, b], _, _ =>
    simp only [List.all_cons, List.all_nil, Bool.and_true, Bool.and_eq_true, fitb_iff, fitrb_iff]
    unfold fits fitr szs szr szstep rows
    simp only [List.foldl, List.getD_cons_zero, Int.toNat_zero]
    have ha : 0 ≤ (a.length : Int) := by omega
    have hb : 0 ≤ (b.length : Int) := by omega
    generalize (a.length : Int) = x at ha ⊢
    generalize (b.length : Int) = y at hb ⊢
    by_cases x1 : x = 1 <;> by_cases x0 : x = 0 <;> by_cases y1 : y = 1 <;> by_cases y0 : y = 0 <;> simp [x1, x0, y1, y0] <;> omega
  | [a, b, c], _, _ =>
    simp only [List.all_cons, List.all_nil, Bool.and_true, Bool.and_eq_true, fitb_iff, fitrb_iff]
    unfold fits fitr szs szr szstep rows
    simp only [List.foldl, List.getD_cons_zero, Int.toNat_zero]
    have ha : 0 ≤ (a.length : Int) := by omega
    have hb : 0 ≤ (b.length : Int) := by omega
    have hc : 0 ≤ (c.length : Int) := by omega
    generalize (a.length : Int) = x at ha ⊢
    generalize (b.length : Int) = y at hb ⊢
    generalize (c.length : Int) = z at hc ⊢
    by_cases x1 : x = 1 <;> by_cases x0 : x = 0 <;> by_cases y1 : y = 1 <;> by_cases y0 : y = 0 <;> by_cases z1 : z = 1 <;> by_cases z0 : z = 0 <;> simp [x1, x0, y1, y0, z1, z0] <;> omega
theorem applies (ms : List (List Nat)) (hm : ms.length ≤ 1048576) (ha : All ms) (op : Int) : ∃ (m : List Nat) (e : Int), apF op (CC ms) = some (C m, e) ∧ apR op (CC ms) = some (C m, e) ∧ Pats m ∧ m.length ≤ 1048576 := by
  have hl : ∀ x ∈ CC ms, x.length ≤ 1048576 := by
    intro x hx
    obtain ⟨i, hi, rfl⟩ := List.getElem_of_mem hx
    have := (ha i).1
    have e := getD_cc ms i
    rw [List.getD_eq_getElem?_getD, List.getElem?_eq_getElem hi] at e
    simp only [Option.getD_some] at e
    rw [e, C_len]
    exact this
  unfold apF apR
  by_cases c : Ker.ar op = 0 ∨ Ker.ar op ≠ (CC ms).length
  · rw [if_pos c, if_pos c]
    exact ⟨[], 1, rfl, rfl, fun i => by simp, by simp⟩
  · rw [if_neg c, if_neg c]
    have h3 := ar_le op
    obtain ⟨f1, f2⟩ := fit_same (CC ms) (by omega) (by omega)
    have hs := szs_le (CC ms) hl
    have hr := szr_le (CC ms) hl
    have hd : (List.range (szr (CC ms)).toNat).all (fun i => (dof op (CC ms) (i : Int)).isSome) = true := by
      rw [List.all_eq_true]
      intro i _
      rw [dof_p ms ha]
      rfl
    rw [if_pos hs, if_pos (show szr (CC ms) ≤ 1048576 ∧ (List.range (szr (CC ms)).toNat).all (fun i => (dof op (CC ms) (i : Int)).isSome) = true from ⟨hr, hd⟩)]
    by_cases cf : (CC ms).all (fitb (szs (CC ms))) = true
    · rw [if_pos cf, if_pos (f1.1 cf), ← f2 cf]
      have h0 := szs_nonneg (CC ms)
      obtain ⟨m, em, hp, hlm⟩ := outs_nat ms ha op (szs (CC ms)).toNat
      refine ⟨m, 0, ?_, by rw [em], hp, by omega⟩
      rw [outs_outr ms ha op (szs (CC ms)) ((all_iff _ _).1 cf) _ (by omega), em]
    · rw [if_neg cf, if_neg (fun h => cf (f1.2 h))]
      exact ⟨[], 50, rfl, rfl, fun i => by simp, by simp⟩
theorem twins_l (ms : List (List Nat)) (hm : ms.length ≤ 1048576) (ha : All ms) : ∀ (d i k : Nat) (acc : List (List Nat)), i + d = ms.length → acc.length = i → d < k → lathelaw05_twins.l0 k (CC ms) (CC acc) (i : Int) = some (CC (acc ++ ms.drop i))
  | 0, i, k, acc, h, hl, hk => by
    obtain ⟨k, rfl⟩ : ∃ j, k = j + 1 := ⟨k - 1, by omega⟩
    rw [lathelaw05_twins.l0, if_neg (by rw [CC_len]; omega), List.drop_eq_nil_of_le (by omega), List.append_nil]
  | d + 1, i, k, acc, h, hl, hk => by
    obtain ⟨k, rfl⟩ : ∃ j, k = j + 1 := ⟨k - 1, by omega⟩
    have := (ha i).1
    have tw : lathelaw05_twin.f (C (ms.getD i [])) = some (C (ms.getD i [])) := by
      unfold lathelaw05_twin.f
      rw [if_pos (by rw [C_len]; show 0 + _ < _; omega), List.nil_append]
    rw [lathelaw05_twins.l0, if_pos (by rw [CC_len]; omega), if_pos (by omega), rd_L1_c, tw]
    simp -implicitDefEqProofs only [Option.bind_some]
    rw [if_pos (by rw [CC_len]; omega), up1 (by omega)]
    have e : CC acc ++ [C (ms.getD i [])] = CC (acc ++ [ms.getD i []]) := by rw [CC_app]; rfl
    rw [e, twins_l ms hm ha d (i + 1) k (acc ++ [ms.getD i []]) (by omega) (by simp [hl]) (by omega), drop_cons' (show i < ms.length by omega), List.append_assoc]
    rfl
theorem alike_p (m : List Nat) (hm : m.length ≤ 1048576) (hp : Pats m) (k : Nat) (hk : m.length < k) : lathelaw05_alike.f k (C m) (C m) = some true := by
  unfold lathelaw05_alike.f
  rw [ints_p m hm hp k hk]
  simp -implicitDefEqProofs only [Option.bind_some]
  rw [same_p m hm hp k hk]
  rfl
theorem to_cc : ∀ l : List (List Int), (∀ x ∈ l, x.length ≤ 1048576) → (∀ x ∈ l, ∀ y ∈ x, (Lit.int .u32 y).wf = true) → ∃ ms : List (List Nat), l = CC ms ∧ All ms := by
  intro l
  induction l with
  | nil => exact fun _ _ => ⟨[], rfl, fun i => by simp [Pats]⟩
  | cons x l ih =>
    intro h1 h2
    obtain ⟨ms, rfl, ha⟩ := ih (fun x hx => h1 x (List.mem_cons_of_mem _ hx)) (fun x hx => h2 x (List.mem_cons_of_mem _ hx))
    obtain ⟨m, rfl, hp⟩ := of_wf (h2 x List.mem_cons_self)
    have hlen := h1 _ List.mem_cons_self
    rw [C_len] at hlen
    refine ⟨m :: ms, rfl, fun i => ?_⟩
    cases i with
    | zero => exact ⟨hlen, hp⟩
    | succ i => exact ha i
end Go.Proofs.Ytmfladkimmnccaa.Rlw
