/- The pure form of VectorSums: Sum, Squares, Dot, Mean of lists. Condition: lists of at most 1048576 numbers. -/
import Derived.Test.YtmfladkimmnccaaRlv
import Derived.Test.YtmfladkimmnccaaPFx1
import Derived.Test.YtmfladkimmnccaaPFx10
import Derived.Test.YtmfladkimmnccaaPFx2
import Derived.Test.YtmfladkimmnccaaPFx7
import Derived.Test.YtmfladkimmnccaaPFx8
set_option linter.unusedVariables false
set_option linter.unusedSimpArgs false
namespace Go.Proofs.Ytmfladkimmnccaa.Pure
open Go.RowKit Lathe Go.Proofs.Ytmfladkimmnccaa.PF Go.Proofs.Ytmfladkimmnccaa.Rla Go.Proofs.Ytmfladkimmnccaa.Rlb Go.Proofs.Ytmfladkimmnccaa.Rlc Go.Proofs.Ytmfladkimmnccaa.Rlv Go.Proofs.YtmfladkimmnccaaW.PrintWords Go.Proofs.YtmfladkimmnccaaW.PrintMore
open Go.Proofs.Ytmfladkimmnccaa.Rld (Div_f)

abbrev dotF (m n : List Nat) (s i : Nat) : Nat := fadd s (fmul (m.getD i 0) (n.getD i 0))
theorem vDot_l (m n : List Nat) (hm : m.length ≤ 1048576) (he : m.length = n.length) : ∀ (d i s k : Nat), i + d = m.length → d < k → vector_Dot.l0 k (C n) (s : Int) (C m) (m.length : Int) (i : Int) = some (((lp (dotF m n) d i s : Nat) : Int), 0)
  | 0, i, s, k, h, hk => by
    obtain ⟨k, rfl⟩ : ∃ j, k = j + 1 := ⟨k - 1, by omega⟩
    rw [vector_Dot.l0, if_neg (by omega)]; rfl
  | d + 1, i, s, k, h, hk => by
    obtain ⟨k, rfl⟩ : ∃ j, k = j + 1 := ⟨k - 1, by omega⟩
    rw [vector_Dot.l0, if_pos (by omega), if_pos (by omega), if_pos (by rw [C_len]; omega), if_pos (by rw [C_len]; omega), rd_c, rd_c, mul_p]
    simp -implicitDefEqProofs only [Option.bind_some]
    rw [add_p]
    simp -implicitDefEqProofs only [Option.bind_some]
    rw [up1 (by omega)]
    exact vDot_l m n hm he d (i + 1) _ k (by omega) (by omega)
theorem rDot_l (m n : List Nat) (hm : m.length ≤ 1048576) (he : m.length = n.length) (hp : Pats m) (hq : Pats n) : ∀ (d i s k : Nat), i + d = m.length → d + 100 ≤ k → s < 4294967296 → latheref05_Dot.l0 k (C m) (C n) (s : Int) (i : Int) = some (((lp (dotF m n) d i s : Nat) : Int), 0)
  | 0, i, s, k, h, hk, hs => by
    obtain ⟨k, rfl⟩ : ∃ j, k = j + 1 := ⟨k - 1, by omega⟩
    rw [latheref05_Dot.l0, if_neg (by rw [C_len]; omega)]; rfl
  | d + 1, i, s, k, h, hk, hs => by
    obtain ⟨k, rfl⟩ : ∃ j, k = j + 1 := ⟨k - 1, by omega⟩
    rw [latheref05_Dot.l0, if_pos (by rw [C_len]; omega), if_pos (by omega), if_pos (by rw [C_len]; omega), rd_c, rd_c, Mul_f k _ _ (hp i) (hq i) (by omega)]
    simp -implicitDefEqProofs only [Option.bind_some]
    rw [Add_f k s _ hs (fmul_lt _ _) (by omega)]
    simp -implicitDefEqProofs only [Option.bind_some]
    rw [up1 (by omega)]
    exact rDot_l m n hm he hp hq d (i + 1) _ k (by omega) (by omega) (fadd_lt _ _)
theorem dots (m n : List Nat) (hm : m.length ≤ 1048576) (hp : Pats m) (hq : Pats n) (k : Nat) (hk : m.length + 100 ≤ k) :
    ∃ (x : Nat) (e : Int), x < 4294967296 ∧ vector_Dot.f k (C m) (C n) = some ((x : Int), e) ∧ latheref05_Dot.f k (C m) (C n) = some ((x : Int), e) := by
  unfold vector_Dot.f latheref05_Dot.f
  rw [C_len, C_len]
  by_cases he : m.length = n.length
  · rw [if_pos (by omega), if_pos (by omega)]
    exact ⟨_, 0, lp_lt (fun _ _ => fadd_lt _ _) _ _ _ (by omega), vDot_l m n hm he m.length 0 0 k (by omega) (by omega), rDot_l m n hm he hp hq m.length 0 0 k (by omega) hk (by omega)⟩
  · rw [if_neg (by omega), if_neg (by omega)]
    exact ⟨0, 50, by omega, rfl, rfl⟩
theorem w32 {x : Nat} (h : x < 4294967296) : wrap64 ((x : Nat) : Int) = (x : Int) := w64 (by omega) (by omega)

theorem VectorSums (l0 l1 : List Int) (h0 : l0.length ≤ 1048576) (w0 : ∀ x ∈ l0, (Lit.int .u32 x).wf = true) (h1 : l1.length ≤ 1048576) (w1 : ∀ x ∈ l1, (Lit.int .u32 x).wf = true) : ∃ k, lathelaw05_VectorSums.f k l0 l1 = some true := by
  obtain ⟨m, rfl, hp⟩ := of_wf w0
  obtain ⟨n, rfl, hq⟩ := of_wf w1
  rw [C_len] at h0 h1
  obtain ⟨k, hk⟩ : ∃ k, 1048576 + 400 ≤ k := ⟨1048576 + 400, Nat.le_refl _⟩
  refine ⟨k, ?_⟩
  obtain ⟨x, e, hx, d1, d2⟩ := dots m n h0 hp hq k (by omega)
  have sl : lp (sumF m) m.length 0 0 < 4294967296 := lp_lt (fun _ _ => fadd_lt _ _) _ _ _ (by omega)
  have ql : lp (sqF m) m.length 0 0 < 4294967296 := lp_lt (fun _ _ => fadd_lt _ _) _ _ _ (by omega)
  have mv : vector_Mean.f k (C m) = some ((fdiv (lp (sumF m) m.length 0 0) (fint (m.length : Int)) : Nat) : Int) := by
    unfold vector_Mean.f float_FromInt.f float_Div.f
    rw [vSum m h0 k (by omega), C_len, fint_num]
    simp -implicitDefEqProofs only [Option.bind_some, Int.toNat_natCast]
  have mr : latheref05_Mean.f k (C m) = some ((fdiv (lp (sumF m) m.length 0 0) (fint (m.length : Int)) : Nat) : Int) := by
    unfold latheref05_Mean.f
    rw [rSum m h0 hp k (by omega), C_len, FromInt_f k (m.length : Int) (by omega) (by omega) (by omega)]
    simp -implicitDefEqProofs only [Option.bind_some]
    rw [Div_f k _ _ sl (fint_lt _) (by omega)]
    simp -implicitDefEqProofs only [Option.bind_some]
  unfold lathelaw05_VectorSums.f
  rw [d1, ints_p m h0 hp k (by omega), ints_p n h1 hq k (by omega), vSum m h0 k (by omega), vSq m h0 k (by omega), mv]
  simp -implicitDefEqProofs only [Option.bind_some]
  rw [d2, rSum m h0 hp k (by omega), rSq m h0 hp k (by omega), mr]
  simp -implicitDefEqProofs only [Option.bind_some]
  rw [w32 sl, w32 ql, w32 hx, w32 (fdiv_lt _ _), sure_p k (by omega)]
  simp -implicitDefEqProofs only [Option.bind_some, if_true]
end Go.Proofs.Ytmfladkimmnccaa.Pure
