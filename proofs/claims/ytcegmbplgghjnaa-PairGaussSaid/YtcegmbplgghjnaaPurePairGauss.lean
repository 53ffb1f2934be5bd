/- The pure form of PairGauss: whole numbers multiply exactly, as Gauss's; their squares multiply. No condition. -/
import Derived.Test.YtcegmbplgghjnaaRlp
import Derived.Test.YtcegmbplgghjnaaFpf
import Derived.Test.YtcegmbplgghjnaaPFx26
set_option linter.unusedVariables false
set_option linter.unusedSimpArgs false
namespace Lathe
open Ieee
theorem V_inf_lt {x : Nat} {n : Int} (hn : n.natAbs ≤ 16777216) (h : (V x).natAbs = n.natAbs * 2 ^ 149) : rg x < 2139095040 := by
  refine fint_lt_inf hn ?_
  rw [← h]
  unfold V
  split <;> omega
/-- x is the whole number n. -/
def Nu (x : Nat) (n : Int) : Prop := x < 4294967296 ∧ rg x < 2139095040 ∧ V x = n * 2 ^ 149
theorem natAbs_149 (n : Int) : (n * 2 ^ 149).natAbs = n.natAbs * 2 ^ 149 := by
  have := natAbs_mul_pow n 149
  rwa [← pow_cast] at this
theorem Nu.int {n : Int} (h : n.natAbs ≤ 16777216) (hl : fint n < 4294967296) : Nu (fint n) n := by
  obtain ⟨h1, h2, h3, h4⟩ := fint_V h
  exact ⟨hl, h1, h4⟩
theorem rep_149 {n : Int} (h : n.natAbs ≤ 16777216) : rep (n * 2 ^ 149) := by
  obtain ⟨r, hr⟩ := rep_mk 149 n.natAbs h
  exact ⟨r, by rw [natAbs_149, hr]⟩
theorem Nu.add {x y : Nat} {m n : Int} (hx : Nu x m) (hy : Nu y n) (h : (m + n).natAbs ≤ 16777216) (hl : fadd x y < 4294967296) : Nu (fadd x y) (m + n) := by
  obtain ⟨R, g, e⟩ := fadd_fin hx.2.1 hy.2.1
  have g := near_iff.2 g
  have hv : V x + V y = (m + n) * 2 ^ 149 := by rw [hx.2.2, hy.2.2, Int.add_mul]
  obtain ⟨r, hr⟩ := rep_149 h
  have hR : R = r := by
    rw [hv, hr] at g
    exact g.unique (Near.self 23 r) (by omega) (by omega) rfl
  have hlt : r < 2139095040 := fint_lt_inf h (by rw [← hr, natAbs_149])
  have hf : rg (fadd x y) < 2139095040 := by rw [e, rg_pk (by omega)]; omega
  exact ⟨hl, hf, by rw [(fadd_RN hx.2.1 hy.2.1 hf).exact (by rw [hv]; exact ⟨r, hr⟩), hv]⟩
theorem Nu.flip {x : Nat} {n : Int} (hx : Nu x n) : Nu (Lathe.flip x) (-n) :=
  ⟨flip_lt' hx.1, by rw [rg_flip hx.1]; exact hx.2.1, by rw [V_flip hx.1, hx.2.2, Int.neg_mul]⟩
theorem Nu.sub {x y : Nat} {m n : Int} (hx : Nu x m) (hy : Nu y n) (h : (m - n).natAbs ≤ 16777216) (hl : ∀ y, fadd x y < 4294967296) : Nu (fsub x y) (m - n) := by
  rw [fsub_flip hy.1]
  have := hx.add hy.flip (by rw [← Int.sub_eq_add_neg]; exact h) (hl _)
  rwa [← Int.sub_eq_add_neg] at this
theorem Nu.abs {x : Nat} {n : Int} (hx : Nu x n) : U 23 (rg x) = n.natAbs * 2 ^ 149 ∧ (n ≠ 0 → sg x = decide (n < 0)) := by
  have hP : (0 : Int) < 2 ^ 149 := by rw [pow_cast]; have := Nat.two_pow_pos 149; omega
  have hv := hx.2.2
  have ha := natAbs_149 n
  have hn := mul_neg_iff (S := n) hP
  have hz : n ≠ 0 → n * 2 ^ 149 ≠ 0 := fun h => Int.mul_ne_zero h (Int.ne_of_gt hP)
  generalize n * 2 ^ 149 = X at *
  rw [← ha]
  unfold V at hv
  constructor
  · split at hv <;> omega
  · intro h
    have := hz h
    cases s : sg x
    · rw [s] at hv; simp only [Bool.false_eq_true, if_false] at hv; symm; rw [decide_eq_false_iff_not, ← hn]; omega
    · rw [s] at hv; simp only [if_true] at hv; symm; rw [decide_eq_true_iff, ← hn]; omega
theorem Nu.mul {x y : Nat} {m n : Int} (hx : Nu x m) (hy : Nu y n) (h : (m * n).natAbs ≤ 16777216) (hl : fmul x y < 4294967296) : Nu (fmul x y) (m * n) ∧ sg (fmul x y) = (sg x ^^ sg y) := by
  obtain ⟨x1, x2⟩ := hx.abs
  obtain ⟨y1, y2⟩ := hy.abs
  obtain ⟨R, g, e⟩ := fmul_fin hx.2.1 hy.2.1
  have g := near_iff.2 g
  obtain ⟨r, hr⟩ := rep_149 h
  rw [natAbs_149] at hr
  have hR : R = r := by
    refine g.unique (Near.self 23 r) (Nat.two_pow_pos 149) (by omega) ?_
    rw [← hr, x1, y1, Int.natAbs_mul]
    generalize 2 ^ 149 = P
    grind
  have hlt : r < 2139095040 := fint_lt_inf h hr.symm
  have e : fmul x y = pk (sg x ^^ sg y) r := by rw [e, hR, show min r 2139095040 = r by omega]
  have hs : sg (fmul x y) = (sg x ^^ sg y) := by rw [e, sg_pk (by omega)]
  refine ⟨⟨hl, by rw [e, rg_pk (by omega)]; exact hlt, ?_⟩, hs⟩
  unfold V
  rw [hs, e, rg_pk (by omega), ← hr]
  by_cases z : m * n = 0
  · rw [z]; split <;> simp
  · have m0 : m ≠ 0 := fun h => z (by rw [h, Int.zero_mul])
    have n0 : n ≠ 0 := fun h => z (by rw [h, Int.mul_zero])
    rw [x2 m0, y2 n0]
    have hsg : (decide (m < 0) ^^ decide (n < 0)) = decide (m * n < 0) := by
      rw [Bool.eq_iff_iff]
      rcases Int.lt_trichotomy m 0 with c | c | c
      · rcases Int.lt_trichotomy n 0 with d | d | d
        · have := Int.mul_pos_of_neg_of_neg c d
          simp [c, d]; omega
        · omega
        · have := Int.mul_neg_of_neg_of_pos c d
          simp [c, this]; omega
      · omega
      · rcases Int.lt_trichotomy n 0 with d | d | d
        · have := Int.mul_neg_of_pos_of_neg c d
          simp [d, this]; omega
        · omega
        · have := Int.mul_pos c d
          simp; omega
    rw [hsg]
    have hn := natAbs_149 (m * n)
    rw [← hn]
    have hP : (0 : Int) < 2 ^ 149 := by rw [pow_cast]; have := Nat.two_pow_pos 149; omega
    have hneg := mul_neg_iff (S := m * n) hP
    generalize m * n * 2 ^ 149 = X at *
    by_cases c : m * n < 0
    · rw [decide_eq_true c, if_pos rfl]; have := hneg.2 c; omega
    · rw [decide_eq_false c]; simp only [Bool.false_eq_true, if_false]
      have : ¬ X < 0 := fun h => c (hneg.1 h)
      omega
/-- Two patterns of one whole number differ at most in a nought's sign. -/
theorem Nu.alike {x y : Nat} {n : Int} (hx : Nu x n) (hy : Nu y n) : x = y ∨ rg x = 0 ∧ rg y = 0 := by
  refine (W_eq hx.1 hy.1).1 ?_
  show V x = V y
  rw [hx.2.2, hy.2.2]
theorem Nu.square {x : Nat} {n : Int} (hx : Nu x n) (h : (n * n).natAbs ≤ 16777216) (hl : fmul x x < 4294967296) : Nu (fmul x x) (n * n) ∧ sg (fmul x x) = false := by
  have := hx.mul hx h hl
  rw [Bool.xor_self] at this
  exact this
end Lathe
namespace Go.Proofs.Ytcegmbplgghjnaa.Pure
open Go.RowKit Lathe Go.Proofs.Ytcegmbplgghjnaa.PF Go.Proofs.Ytcegmbplgghjnaa.Rla Go.Proofs.Ytcegmbplgghjnaa.Rlp Go.Proofs.YtcegmbplgghjnaaW.PrintWords Go.Proofs.YtcegmbplgghjnaaW.PrintMore
open Go.Proofs.Ytcegmbplgghjnaa.Rlc (FromInt_f)

theorem alike_p {x y : Nat} {n : Int} (hx : Nu x n) (hy : Nu y n) : lathelaw04_alike.f x y = some true := by
  unfold lathelaw04_alike.f
  rcases hx.alike hy with h | ⟨h, h'⟩
  · rw [if_pos (by rw [h])]
  · by_cases c : (x : Int) = y
    · rw [if_pos c]
    · unfold rg at h h'
      rw [if_neg c, if_pos (by omega)]
      congr 1
      rw [beq_iff_eq]
      omega
theorem tmod_2048 (x : Int) : (Int.tmod x 2048).natAbs ≤ 2047 := by
  have := Int.natAbs_tmod x 2048
  rw [this]
  have := Nat.mod_lt x.natAbs (show 0 < (2048 : Int).natAbs by decide)
  have e : (2048 : Int).natAbs = 2048 := rfl
  omega
theorem whole_p (k : Nat) (p q : Int) (hp : p.natAbs ≤ 16777216) (hq : q.natAbs ≤ 16777216) (hk : 80 ≤ k) : lathelaw04_whole.f k p q = some (((fint p : Nat) : Int), ((fint q : Nat) : Int)) := by
  unfold lathelaw04_whole.f
  rw [FromInt_f k p (by omega) (by omega) hk, FromInt_f k q (by omega) (by omega) hk]
  simp -implicitDefEqProofs only [Option.bind_some]
  rw [m32 (fint_lt p), m32 (fint_lt q)]
theorem mul_2047 {a b : Int} (ha : a.natAbs ≤ 2047) (hb : b.natAbs ≤ 2047) : (a * b).natAbs ≤ 4190209 := by
  rw [Int.natAbs_mul]
  exact Nat.mul_le_mul ha hb
theorem gauss_j0 (k : Nat) (a b c d : Int) (x y : Nat) (ha : a.natAbs ≤ 2047) (hb : b.natAbs ≤ 2047) (hc : c.natAbs ≤ 2047) (hd : d.natAbs ≤ 2047) (hx : Nu x (a * c - b * d)) (hy : Nu y (a * d + b * c)) (hk : 90 ≤ k) :
    lathelaw04_PairGauss.j0 (k + 1) a b c d false x y = some true := by
  rw [lathelaw04_PairGauss.j0, if_neg (by decide)]
  have a2 := mul_2047 ha ha
  have b2 := mul_2047 hb hb
  have c2 := mul_2047 hc hc
  have d2 := mul_2047 hd hd
  have hS : (a * c - b * d) * (a * c - b * d) + (a * d + b * c) * (a * d + b * c) = (a * a + b * b) * (c * c + d * d) := by grind
  have na : 0 ≤ a * a := by have := Int.natAbs_mul_self (a := a); omega
  have nb : 0 ≤ b * b := by have := Int.natAbs_mul_self (a := b); omega
  have nc : 0 ≤ c * c := by have := Int.natAbs_mul_self (a := c); omega
  have nd : 0 ≤ d * d := by have := Int.natAbs_mul_self (a := d); omega
  rw [w64 (n := a * a) (by omega) (by omega), w64 (n := b * b) (by omega) (by omega), w64 (n := c * c) (by omega) (by omega), w64 (n := d * d) (by omega) (by omega), w64 (n := a * a + b * b) (by omega) (by omega), w64 (n := c * c + d * d) (by omega) (by omega)]
  have hp : 0 ≤ (a * a + b * b) * (c * c + d * d) := Int.mul_nonneg (by omega) (by omega)
  have hp2 : (a * a + b * b) * (c * c + d * d) ≤ 8380418 * 8380418 := Int.mul_le_mul (by omega) (by omega) (by omega) (by omega)
  rw [w64 (n := (a * a + b * b) * (c * c + d * d)) (by omega) (by omega), works_f]
  simp -implicitDefEqProofs only [Option.bind_some]
  generalize hP : (a * a + b * b) * (c * c + d * d) = p at *
  by_cases h : p ≥ 16777216
  · rw [if_pos h]
  · rw [if_neg h]
    unfold pair_Square.f
    simp -implicitDefEqProofs only [Option.bind_some, Int.toNat_natCast]
    rw [FromInt_f k p (by omega) (by omega) (by omega)]
    simp -implicitDefEqProofs only [Option.bind_some]
    generalize a * c - b * d = m at *
    generalize a * d + b * c = n at *
    have nm : 0 ≤ m * m := by have := Int.natAbs_mul_self (a := m); omega
    have nn : 0 ≤ n * n := by have := Int.natAbs_mul_self (a := n); omega
    obtain ⟨x1, x2⟩ := hx.square (by omega) (fmul_lt x x)
    obtain ⟨y1, y2⟩ := hy.square (by omega) (fmul_lt y y)
    have hs := x1.add y1 (by omega) (fadd_lt _ _)
    have hs0 : sg (fadd (fmul x x) (fmul y y)) = false := by
      rw [((fadd_fin x1.2.1 y1.2.1).fin hs.2.1).2, x2, y2]
      have hv : V (fmul x x) + V (fmul y y) = (m * m + n * n) * 2 ^ 149 := by rw [x1.2.2, y1.2.2, Int.add_mul]
      rw [hv]
      have hP : (0 : Int) < 2 ^ 149 := by rw [pow_cast]; have := Nat.two_pow_pos 149; omega
      have := mul_neg_iff (S := m * m + n * n) hP
      split
      · rfl
      · rw [decide_eq_false_iff_not, this]; omega
    rw [hS] at hs
    have hi := Nu.int (n := p) (by omega) (fint_lt p)
    have hi0 : sg (fint p) = false := by
      rw [(fint_V (n := p) (by omega)).2.1, decide_eq_false_iff_not]; omega
    have he : fadd (fmul x x) (fmul y y) = fint p := by
      rcases hs.alike hi with h | ⟨h, h'⟩
      · exact h
      · exact pat_eq hs.1 hi.1 (by rw [hs0, hi0]) (by rw [h, h'])
    have := fint_lt p
    rw [he, w64 (by omega) (by omega), if_pos rfl]
theorem PairGauss (a0 a1 a2 a3 : Int) (h0 : (Lit.int .i64 a0).wf = true) (h1 : (Lit.int .i64 a1).wf = true) (h2 : (Lit.int .i64 a2).wf = true) (h3 : (Lit.int .i64 a3).wf = true) :
    ∃ k, lathelaw04_PairGauss.f k a0 a1 a2 a3 = some true := by
  obtain ⟨k, hk⟩ : ∃ k, 300 ≤ k := ⟨300, Nat.le_refl _⟩
  refine ⟨k + 1, ?_⟩
  unfold lathelaw04_PairGauss.f
  have ha := tmod_2048 a0
  have hb := tmod_2048 a1
  have hc := tmod_2048 a2
  have hd := tmod_2048 a3
  generalize Int.tmod a0 2048 = a at *
  generalize Int.tmod a1 2048 = b at *
  generalize Int.tmod a2 2048 = c at *
  generalize Int.tmod a3 2048 = d at *
  have ac := mul_2047 ha hc
  have bd := mul_2047 hb hd
  have ad := mul_2047 ha hd
  have bc := mul_2047 hb hc
  rw [whole_p (k + 1) a b (by omega) (by omega) (by omega), whole_p (k + 1) c d (by omega) (by omega) (by omega)]
  rw [w64 (n := a * c) (by omega) (by omega), w64 (n := b * d) (by omega) (by omega), w64 (n := a * d) (by omega) (by omega), w64 (n := b * c) (by omega) (by omega), w64 (n := a * c - b * d) (by omega) (by omega), w64 (n := a * d + b * c) (by omega) (by omega)]
  rw [whole_p (k + 1) (a * c - b * d) (a * d + b * c) (by omega) (by omega) (by omega)]
  unfold pair_Mul.f
  simp -implicitDefEqProofs only [Option.bind_some, Int.toNat_natCast]
  have ia := Nu.int (n := a) (by omega) (fint_lt a)
  have ib := Nu.int (n := b) (by omega) (fint_lt b)
  have ic := Nu.int (n := c) (by omega) (fint_lt c)
  have id' := Nu.int (n := d) (by omega) (fint_lt d)
  have re : Nu (cmul (fint a, fint b) (fint c, fint d)).1 (a * c - b * d) := (ia.mul ic (by omega) (fmul_lt _ _)).1.sub (ib.mul id' (by omega) (fmul_lt _ _)).1 (by omega) (fun _ => fadd_lt _ _)
  have im : Nu (cmul (fint a, fint b) (fint c, fint d)).2 (a * d + b * c) := (ia.mul id' (by omega) (fmul_lt _ _)).1.add (ib.mul ic (by omega) (fmul_lt _ _)).1 (by omega) (fadd_lt _ _)
  rw [alike_p re (Nu.int (by omega) (fint_lt _)), alike_p im (Nu.int (by omega) (fint_lt _))]
  simp -implicitDefEqProofs only [Option.bind_some, if_true, Bool.not_true]
  exact gauss_j0 k a b c d _ _ ha hb hc hd re im (by omega)
end Go.Proofs.Ytcegmbplgghjnaa.Pure
