/- Sums, squares, products, ends of lists: the program's loops and the reference's. No condition. -/
import Derived.Test.YtmfladkimmnccaaRld
import Derived.Test.YtmfladkimmnccaaRle
import Derived.Test.YtmfladkimmnccaaPFx1
import Derived.Test.YtmfladkimmnccaaPFx2
import Derived.Test.YtmfladkimmnccaaPFx7
import Derived.Test.YtmfladkimmnccaaPFx8
set_option linter.unusedVariables false
set_option linter.unusedSimpArgs false
namespace Go.Proofs.Ytmfladkimmnccaa.Rlv
open Go.RowKit Lathe Go.Proofs.Ytmfladkimmnccaa.PF Go.Proofs.Ytmfladkimmnccaa.Ref Go.Proofs.Ytmfladkimmnccaa.Rla Go.Proofs.Ytmfladkimmnccaa.Rlb Go.Proofs.Ytmfladkimmnccaa.Rlc Go.Proofs.YtmfladkimmnccaaW.PrintWords Go.Proofs.YtmfladkimmnccaaW.PrintMore

theorem write_lt (d : Ieee.Datum) : Ieee.single.write d < 4294967296 := Ieee.Format.write_lt Ieee.single d
theorem res_lt {o : Option Ieee.Datum} : res (o.map Ieee.single.write) < 4294967296 := by
  cases o with
  | none => show (2143289344 : Nat) < 4294967296; omega
  | some d => exact write_lt d
theorem fadd_lt (a b : Nat) : fadd a b < 4294967296 := res_lt
theorem fmul_lt (a b : Nat) : fmul a b < 4294967296 := res_lt
theorem fdiv_lt (a b : Nat) : fdiv a b < 4294967296 := res_lt
theorem fsqrt_lt (a : Nat) : fsqrt a < 4294967296 := res_lt
theorem fint_lt (n : Int) : fint n < 4294967296 := write_lt _

/-- A list of patterns as the program's. -/
def C (m : List Nat) : List Int := m.map (fun (n : Nat) => (n : Int))
theorem C_len (m : List Nat) : (C m).length = m.length := by simp [C]
theorem rd_c (m : List Nat) (i : Nat) : rd (C m) (i : Int) = ((m.getD i 0 : Nat) : Int) := by
  unfold rd C
  rw [Int.toNat_natCast]
  simp only [List.getD_eq_getElem?_getD, List.getElem?_map]
  cases m[i]? <;> rfl
def Pats (m : List Nat) : Prop := ∀ i, m.getD i 0 < 4294967296
theorem of_wf {l : List Int} (h : ∀ x ∈ l, (Lit.int .u32 x).wf = true) : ∃ m : List Nat, l = C m ∧ Pats m := by
  have hp : ∀ x ∈ l, 0 ≤ x ∧ x < 4294967296 := fun x hx => by
    have := h x hx
    simp [Lit.wf, IntKind.min, IntKind.max, IntKind.signed, IntKind.bits] at this
    omega
  refine ⟨l.map Int.toNat, ?_, ?_⟩
  · unfold C
    rw [List.map_map]
    conv => lhs; rw [← List.map_id l]
    refine List.map_congr_left (fun x hx => ?_)
    have := hp x hx
    simp only [id, Function.comp]
    omega
  · intro i
    simp only [List.getD_eq_getElem?_getD, List.getElem?_map]
    cases e : l[i]? with
    | none => simp
    | some x =>
      have := hp x (List.mem_of_getElem? e)
      simp only [Option.map_some, Option.getD_some]
      omega

/-- d rounds from i on. -/
def lp (f : Nat → Nat → Nat) : Nat → Nat → Nat → Nat
  | 0, _, s => s
  | d + 1, i, s => lp f d (i + 1) (f s i)
theorem lp_lt {f : Nat → Nat → Nat} (h : ∀ s i, f s i < 4294967296) : ∀ (d i s : Nat), s < 4294967296 → lp f d i s < 4294967296
  | 0, _, s, hs => hs
  | d + 1, i, s, _ => lp_lt h d (i + 1) _ (h _ _)

theorem up1 {i : Nat} (h : i ≤ 1048576) : wrap64 ((i : Int) + 1) = ((i + 1 : Nat) : Int) := by
  rw [w64 (by omega) (by omega)]; omega
theorem add_p (a b : Nat) : float_Add.f a b = some ((fadd a b : Nat) : Int) := by unfold float_Add.f; simp only [Int.toNat_natCast]
theorem mul_p (a b : Nat) : float_Mul.f a b = some ((fmul a b : Nat) : Int) := by unfold float_Mul.f; simp only [Int.toNat_natCast]
theorem min_p (a b : Nat) : float_Min.f a b = some ((fmin a b : Nat) : Int) := by unfold float_Min.f; simp only [Int.toNat_natCast]

abbrev sumF (m : List Nat) (s i : Nat) : Nat := fadd s (m.getD i 0)
abbrev sqF (m : List Nat) (s i : Nat) : Nat := fadd s (fmul (m.getD i 0) (m.getD i 0))
abbrev minF (m : List Nat) (s i : Nat) : Nat := fmin s (m.getD i 0)

theorem vSum_l (m : List Nat) (hm : m.length ≤ 1048576) : ∀ (d i s k : Nat), i + d = m.length → d < k → vector_Sum.l0 k (s : Int) (C m) (m.length : Int) (i : Int) = some ((lp (sumF m) d i s : Nat) : Int)
  | 0, i, s, k, h, hk => by
    obtain ⟨k, rfl⟩ : ∃ j, k = j + 1 := ⟨k - 1, by omega⟩
    rw [vector_Sum.l0, if_neg (by omega)]; rfl
  | d + 1, i, s, k, h, hk => by
    obtain ⟨k, rfl⟩ : ∃ j, k = j + 1 := ⟨k - 1, by omega⟩
    rw [vector_Sum.l0, if_pos (by omega), if_pos (by omega), if_pos (by rw [C_len]; omega), rd_c, add_p]
    simp -implicitDefEqProofs only [Option.bind_some]
    rw [up1 (by omega)]
    exact vSum_l m hm d (i + 1) _ k (by omega) (by omega)
theorem vSum (m : List Nat) (hm : m.length ≤ 1048576) (k : Nat) (hk : m.length < k) : vector_Sum.f k (C m) = some ((lp (sumF m) m.length 0 0 : Nat) : Int) := by
  unfold vector_Sum.f
  rw [C_len]
  exact vSum_l m hm m.length 0 0 k (by omega) hk
theorem vSq_l (m : List Nat) (hm : m.length ≤ 1048576) : ∀ (d i s k : Nat), i + d = m.length → d < k → vector_Squares.l0 k (s : Int) (C m) (m.length : Int) (i : Int) = some ((lp (sqF m) d i s : Nat) : Int)
  | 0, i, s, k, h, hk => by
    obtain ⟨k, rfl⟩ : ∃ j, k = j + 1 := ⟨k - 1, by omega⟩
    rw [vector_Squares.l0, if_neg (by omega)]; rfl
  | d + 1, i, s, k, h, hk => by
    obtain ⟨k, rfl⟩ : ∃ j, k = j + 1 := ⟨k - 1, by omega⟩
    rw [vector_Squares.l0, if_pos (by omega), if_pos (by omega), if_pos (by rw [C_len]; omega), rd_c, mul_p]
    simp -implicitDefEqProofs only [Option.bind_some]
    rw [add_p]
    simp -implicitDefEqProofs only [Option.bind_some]
    rw [up1 (by omega)]
    exact vSq_l m hm d (i + 1) _ k (by omega) (by omega)
theorem vSq (m : List Nat) (hm : m.length ≤ 1048576) (k : Nat) (hk : m.length < k) : vector_Squares.f k (C m) = some ((lp (sqF m) m.length 0 0 : Nat) : Int) := by
  unfold vector_Squares.f
  rw [C_len]
  exact vSq_l m hm m.length 0 0 k (by omega) hk
theorem vMin_l (m : List Nat) (hm : m.length ≤ 1048576) : ∀ (d i s k : Nat), i + d = m.length → d < k → vector_Least.l0 k (s : Int) (C m) (m.length : Int) (i : Int) = some ((lp (minF m) d i s : Nat) : Int)
  | 0, i, s, k, h, hk => by
    obtain ⟨k, rfl⟩ : ∃ j, k = j + 1 := ⟨k - 1, by omega⟩
    rw [vector_Least.l0, if_neg (by omega)]; rfl
  | d + 1, i, s, k, h, hk => by
    obtain ⟨k, rfl⟩ : ∃ j, k = j + 1 := ⟨k - 1, by omega⟩
    rw [vector_Least.l0, if_pos (by omega), if_pos (by omega), if_pos (by rw [C_len]; omega), rd_c, min_p]
    simp -implicitDefEqProofs only [Option.bind_some]
    rw [up1 (by omega)]
    exact vMin_l m hm d (i + 1) _ k (by omega) (by omega)
theorem vMin (m : List Nat) (hm : m.length ≤ 1048576) (k : Nat) (hk : m.length < k) : vector_Least.f k (C m) = some ((lp (minF m) m.length 0 2139095040 : Nat) : Int) := by
  unfold vector_Least.f
  rw [C_len]
  exact vMin_l m hm m.length 0 2139095040 k (by omega) hk

theorem rSum_l (m : List Nat) (hm : m.length ≤ 1048576) (hp : Pats m) : ∀ (d i s k : Nat), i + d = m.length → d + 100 ≤ k → s < 4294967296 → latheref05_Sum.l0 k (C m) (s : Int) (i : Int) = some ((lp (sumF m) d i s : Nat) : Int)
  | 0, i, s, k, h, hk, hs => by
    obtain ⟨k, rfl⟩ : ∃ j, k = j + 1 := ⟨k - 1, by omega⟩
    rw [latheref05_Sum.l0, if_neg (by rw [C_len]; omega)]; rfl
  | d + 1, i, s, k, h, hk, hs => by
    obtain ⟨k, rfl⟩ : ∃ j, k = j + 1 := ⟨k - 1, by omega⟩
    rw [latheref05_Sum.l0, if_pos (by rw [C_len]; omega), if_pos (by omega), rd_c, Add_f k s _ hs (hp i) (by omega)]
    simp -implicitDefEqProofs only [Option.bind_some]
    rw [up1 (by omega)]
    exact rSum_l m hm hp d (i + 1) _ k (by omega) (by omega) (fadd_lt _ _)
theorem rSum (m : List Nat) (hm : m.length ≤ 1048576) (hp : Pats m) (k : Nat) (hk : m.length + 100 ≤ k) : latheref05_Sum.f k (C m) = some ((lp (sumF m) m.length 0 0 : Nat) : Int) := by
  unfold latheref05_Sum.f
  exact rSum_l m hm hp m.length 0 0 k (by omega) hk (by omega)
theorem rSq_l (m : List Nat) (hm : m.length ≤ 1048576) (hp : Pats m) : ∀ (d i s k : Nat), i + d = m.length → d + 100 ≤ k → s < 4294967296 → latheref05_Squares.l0 k (C m) (s : Int) (i : Int) = some ((lp (sqF m) d i s : Nat) : Int)
  | 0, i, s, k, h, hk, hs => by
    obtain ⟨k, rfl⟩ : ∃ j, k = j + 1 := ⟨k - 1, by omega⟩
    rw [latheref05_Squares.l0, if_neg (by rw [C_len]; omega)]; rfl
  | d + 1, i, s, k, h, hk, hs => by
    obtain ⟨k, rfl⟩ : ∃ j, k = j + 1 := ⟨k - 1, by omega⟩
    rw [latheref05_Squares.l0, if_pos (by rw [C_len]; omega), if_pos (by omega), rd_c, Mul_f k _ _ (hp i) (hp i) (by omega)]
    simp -implicitDefEqProofs only [Option.bind_some]
    rw [Add_f k s _ hs (fmul_lt _ _) (by omega)]
    simp -implicitDefEqProofs only [Option.bind_some]
    rw [up1 (by omega)]
    exact rSq_l m hm hp d (i + 1) _ k (by omega) (by omega) (fadd_lt _ _)
theorem rSq (m : List Nat) (hm : m.length ≤ 1048576) (hp : Pats m) (k : Nat) (hk : m.length + 100 ≤ k) : latheref05_Squares.f k (C m) = some ((lp (sqF m) m.length 0 0 : Nat) : Int) := by
  unfold latheref05_Squares.f
  exact rSq_l m hm hp m.length 0 0 k (by omega) hk (by omega)

theorem C_append (a b : List Nat) : C (a ++ b) = C a ++ C b := by simp [C]
theorem drop_cons {m : List Nat} {i : Nat} (h : i < m.length) : m.drop i = m.getD i 0 :: m.drop (i + 1) := by
  rw [List.drop_eq_getElem_cons h]
  simp [List.getD_eq_getElem?_getD, h]
theorem ints_l (m : List Nat) (hm : m.length ≤ 1048576) (hp : Pats m) : ∀ (d i k : Nat) (acc : List Nat), i + d = m.length → acc.length = i → d < k → lathelaw05_ints.l0 k (C m) (C acc) (i : Int) = some (C (acc ++ m.drop i))
  | 0, i, k, acc, h, ha, hk => by
    obtain ⟨k, rfl⟩ : ∃ j, k = j + 1 := ⟨k - 1, by omega⟩
    rw [lathelaw05_ints.l0, if_neg (by rw [C_len]; omega), List.drop_eq_nil_of_le (by omega), List.append_nil]
  | d + 1, i, k, acc, h, ha, hk => by
    obtain ⟨k, rfl⟩ : ∃ j, k = j + 1 := ⟨k - 1, by omega⟩
    have := hp i
    rw [lathelaw05_ints.l0, if_pos (by rw [C_len]; omega), if_pos (by omega), if_pos (by rw [C_len]; omega), rd_c, w64 (by omega) (by omega), up1 (by omega)]
    have e : C acc ++ [((m.getD i 0 : Nat) : Int)] = C (acc ++ [m.getD i 0]) := by rw [C_append]; rfl
    rw [e, ints_l m hm hp d (i + 1) k (acc ++ [m.getD i 0]) (by omega) (by simp [ha]) (by omega), drop_cons (show i < m.length by omega), List.append_assoc]
    rfl
theorem ints_p (m : List Nat) (hm : m.length ≤ 1048576) (hp : Pats m) (k : Nat) (hk : m.length < k) : lathelaw05_ints.f k (C m) = some (C m) := by
  unfold lathelaw05_ints.f
  have := ints_l m hm hp m.length 0 k [] (by omega) rfl hk
  simpa [C] using this

theorem sure_p (k : Nat) (hk : 10 ≤ k) : lathelaw05_sure.f k = some true := by
  unfold lathelaw05_sure.f
  have a1 : vector_Apply.f 4 [[1065353216, 1073741824], [1065353216]] = some ([1073741824, 1077936128], 0) := by unfold vector_Apply.f; rw [if_pos ⟨rfl, rfl⟩]
  have a2 : vector_Apply.f 19 [[1065353216]] = some ([], 1) := by
    unfold vector_Apply.f
    rw [if_neg (by simp), if_pos rfl]
  rw [a1, a2]
  have s1 := vSum [1073741824, 1077936128] (by decide) k (by show 2 < k; omega)
  have s2 := vMin [] (by decide) k (by show 0 < k; omega)
  have s3 := vSq [1073741824] (by decide) k (by show 1 < k; omega)
  have e1 : lp (sumF [1073741824, 1077936128]) 2 0 0 = 1084227584 := by decide +kernel
  have e3 : lp (sqF [1073741824]) 1 0 0 = 1082130432 := by decide +kernel
  have s1 : vector_Sum.f k [1073741824, 1077936128] = some 1084227584 := by
    have := s1
    rw [show [1073741824, 1077936128].length = 2 from rfl, e1] at this
    exact this
  have s2 : vector_Least.f k [] = some 2139095040 := s2
  have s3 : vector_Squares.f k [1073741824] = some 1082130432 := by
    have := s3
    rw [show [1073741824].length = 1 from rfl, e3] at this
    exact this
  simp -implicitDefEqProofs only [Option.bind_some, List.length_cons, List.length_nil]
  rw [if_pos (by decide), if_pos (by decide), if_pos (by decide), if_pos (by decide), if_pos (by decide), if_pos (by decide), if_pos (by decide), s1]
  simp -implicitDefEqProofs only [Option.bind_some]
  rw [if_pos (by decide), s2]
  simp -implicitDefEqProofs only [Option.bind_some]
  rw [if_pos (by decide), s3]
  rfl
end Go.Proofs.Ytmfladkimmnccaa.Rlv
