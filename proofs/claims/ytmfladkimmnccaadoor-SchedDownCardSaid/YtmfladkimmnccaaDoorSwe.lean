/- The value of a polynomial schedule goes one way. No condition. -/
import Derived.Test.YtmfladkimmnccaaDoorSwd
import Derived.Test.YtmfladkimmnccaaDoorPWx1
set_option linter.unusedVariables false
set_option linter.unusedSimpArgs false
namespace Go.Proofs.YtmfladkimmnccaaDoor.Swe
open Lathe Go.Proofs.YtmfladkimmnccaaDoor.Rlc Go.Proofs.YtmfladkimmnccaaDoor.Swv Go.Proofs.YtmfladkimmnccaaDoor.Swb Go.Proofs.YtmfladkimmnccaaDoor.Swd

theorem one_p : Pos 1065353216 := ⟨by decide⟩
/-- 1 less a number from 0 to 1. -/
theorem sub_of {q : Nat} (h : Unit q) : ∃ R, NearC 23 R (cq (U 23 1065353216 - U 23 q) 1) ∧ fsub 1065353216 q = min R 2139095040 := by
  have hq := h.pos
  have hlt : q < 4294967296 := by have := hq.lt; omega
  rw [fsub_flip hlt]
  obtain ⟨R, g, e⟩ := fadd_fin (a := 1065353216) (b := flip q) (by decide) (by rw [rg_flip hlt]; exact hq.fin)
  have hu := U_le (f := 23) h
  have hv : V 1065353216 + V (flip q) = ((U 23 1065353216 - U 23 q : Nat) : Int) := by
    rw [V_flip hlt, ← W_V, ← W_V, one_p.W, hq.W]
    omega
  rw [hv] at g e
  rw [Int.natAbs_natCast] at g
  refine ⟨R, g, ?_⟩
  have hs : (if ((U 23 1065353216 - U 23 q : Nat) : Int) = 0 then sg 1065353216 && sg (flip q) else decide (((U 23 1065353216 - U 23 q : Nat) : Int) < 0)) = false := by
    split
    · rfl
    · rw [decide_eq_false_iff_not]; omega
  rw [e, hs]
  rfl
theorem sub_anti {p q : Nat} (hp : Unit p) (hq : Unit q) (h : p ≤ q) : fsub 1065353216 q ≤ fsub 1065353216 p := by
  obtain ⟨R, g, e⟩ := sub_of hq
  obtain ⟨S, g', e'⟩ := sub_of hp
  have hle : U 23 1065353216 - U 23 q ≤ U 23 1065353216 - U 23 p := by have := U_le (f := 23) h; omega
  have := g.mono g' (sane_cq _ _ (by decide)) (cq_le hle).1 (cq_le hle).2
  omega
theorem sub_zero : fsub 1065353216 0 = 1065353216 := by decide +kernel
theorem sub_one : fsub 1065353216 1065353216 = 0 := by decide +kernel
theorem sub_unit {q : Nat} (hq : Unit q) : Unit (fsub 1065353216 q) := by
  have := sub_anti (p := 0) (Nat.zero_le _) hq (Nat.zero_le _)
  rw [sub_zero] at this
  exact this
theorem fra_eq {c st : Int} (h0 : 0 ≤ c) (h1 : c ≤ st) (h2 : 1 ≤ st) (h3 : st ≤ 2147483647) : Atp.fra c st = fsub 1065353216 (fdiv (fint c) (fint st)) := by
  unfold Atp.fra
  rw [tl_num (by have := (fint_p (n := c) h0 (by omega)).fin; omega), tl_num (by have := (fint_p (n := st) (by omega) h3).fin; omega)]
theorem st_ne {st : Int} (h2 : 1 ≤ st) : fint st ≠ 0 := by
  have := fint_mono (m := 1) (n := st) (by omega) h2
  rw [fint_one] at this
  omega
theorem quo_unit {c st : Int} (h0 : 0 ≤ c) (h1 : c ≤ st) (h2 : 1 ≤ st) (h3 : st ≤ 2147483647) : Unit (fdiv (fint c) (fint st)) := by
  have := div_mono (fint_p h0 (by omega)) (fint_p (n := st) (by omega) h3) (fint_p (n := st) (by omega) h3) (st_ne h2) (fint_mono h0 h1)
  rw [div_self (fint_p (n := st) (by omega) h3) (st_ne h2)] at this
  exact this
theorem fra_anti {c d st : Int} (h0 : 0 ≤ c) (hcd : c ≤ d) (h1 : d ≤ st) (h2 : 1 ≤ st) (h3 : st ≤ 2147483647) : Atp.fra d st ≤ Atp.fra c st ∧ Unit (Atp.fra c st) ∧ Unit (Atp.fra d st) := by
  have q1 := quo_unit h0 (show c ≤ st by omega) h2 h3
  have q2 := quo_unit (c := d) (by omega) h1 h2 h3
  rw [fra_eq h0 (by omega) h2 h3, fra_eq (by omega) h1 h2 h3]
  exact ⟨sub_anti q1 q2 (div_mono (fint_p h0 (by omega)) (fint_p (n := d) (by omega) (by omega)) (fint_p (n := st) (by omega) h3) (st_ne h2) (fint_mono h0 hcd)), sub_unit q1, sub_unit q2⟩
theorem fra_zero {st : Int} (h2 : 1 ≤ st) (h3 : st ≤ 2147483647) : Atp.fra 0 st = 1065353216 := by
  rw [fra_eq (by omega) (by omega) h2 h3, fint_zero, div_zero (fint_p (by omega) h3) (st_ne h2), sub_zero]
theorem fra_self {st : Int} (h2 : 1 ≤ st) (h3 : st ≤ 2147483647) : Atp.fra st st = 0 := by
  rw [fra_eq (by omega) (by omega) h2 h3, div_self (fint_p (by omega) h3) (st_ne h2), sub_one]
/-- The difference's sign. -/
theorem sub_ge {A B : Nat} (hA : A < 4294967296) (hB : B < 4294967296) (fA : rg A < 2139095040) (fB : rg B < 2139095040) (h : W B ≤ W A) : 0 ≤ W (fsub A B) := by
  have fl : rg (flip B) < 2139095040 := by rw [rg_flip hB]; exact fB
  have := fadd_keeps (a := B) (b := A) (c := flip B) (by omega) (by omega) hB hA h (rg_add fB fl) (rg_add fA fl)
  rw [← fsub_flip hB, ← fsub_flip hB, fsub_self hB fB, W_zero] at this
  exact this
theorem sub_le {A B : Nat} (hA : A < 4294967296) (hB : B < 4294967296) (fA : rg A < 2139095040) (fB : rg B < 2139095040) (h : W A ≤ W B) : W (fsub A B) ≤ 0 := by
  have fl : rg (flip B) < 2139095040 := by rw [rg_flip hB]; exact fB
  have := fadd_keeps (a := A) (b := B) (c := flip B) (by omega) (by omega) hA hB h (rg_add fA fl) (rg_add fB fl)
  rw [← fsub_flip hB, ← fsub_flip hB, fsub_self hB fB, W_zero] at this
  exact this
/-- A product with a factor that is not below 0. -/
theorem mul_up {d p q : Nat} (fd : rg d < 2139095040) (h : 0 ≤ W d) (hp : Pos p) (hq : Pos q) (hle : p ≤ q) : W (fmul d p) ≤ W (fmul d q) := by
  by_cases z : rg d = 0
  · rw [mul_zero z hp.fin, mul_zero z hq.fin]; exact Int.le_refl _
  · have := fmul_keeps (a := p) (b := q) (c := d) (by have := hp.fin; omega) (by have := hq.fin; omega) ((hp.le hq).2 hle) (by omega) z (sg_false h z) (rg_mul hp.fin fd) (rg_mul hq.fin fd)
    rw [fmul_comm p d, fmul_comm q d] at this
    exact this
theorem mul_down {d p q : Nat} (hd : d < 4294967296) (fd : rg d < 2139095040) (h : W d ≤ 0) (hp : Pos p) (hq : Pos q) (hle : p ≤ q) : W (fmul d q) ≤ W (fmul d p) := by
  have := mul_up (d := fneg d) (by rw [rg_neg hd (by omega)]; exact fd) (by rw [W_neg hd (by omega)]; omega) hp hq hle
  rw [fmul_neg hd, fmul_neg hd, W_neg (fmul_lt _ _) (rg_mul fd hp.fin), W_neg (fmul_lt _ _) (rg_mul fd hq.fin)] at this
  omega
theorem rg_add' {a b : Nat} (ha : rg a ≤ 2139095040) (hb : rg b < 2139095040) : rg (fadd a b) ≤ 2139095040 := by
  rcases Nat.lt_or_ge (rg a) 2139095040 with c | c
  · exact rg_add c hb
  · rw [fadd_inf_fin (by omega) hb, rg_pk (by decide)]
    exact Nat.le_refl _
/-- The value with a factor. -/
def val (A B p : Nat) : Nat := fadd (fmul (fsub A B) p) B
theorem val_rg {A B p : Nat} (fB : rg B < 2139095040) (fd : rg (fsub A B) < 2139095040) (hp : Pos p) : rg (val A B p) ≤ 2139095040 := rg_add' (rg_mul fd hp.fin) fB
theorem val_down {A B p q : Nat} (hA : A < 4294967296) (hB : B < 4294967296) (fA : rg A < 2139095040) (fB : rg B < 2139095040) (fd : rg (fsub A B) < 2139095040) (hp : Pos p) (hq : Pos q) (hle : p ≤ q) (h : W B ≤ W A) : W (val A B p) ≤ W (val A B q) :=
  fadd_keeps (rg_mul fd hp.fin) (rg_mul fd hq.fin) (fmul_lt _ _) (fmul_lt _ _) (mul_up fd (sub_ge hA hB fA fB h) hp hq hle) (val_rg fB fd hp) (val_rg fB fd hq)
theorem val_up {A B p q : Nat} (hA : A < 4294967296) (hB : B < 4294967296) (fA : rg A < 2139095040) (fB : rg B < 2139095040) (fd : rg (fsub A B) < 2139095040) (hp : Pos p) (hq : Pos q) (hle : p ≤ q) (h : W A ≤ W B) : W (val A B q) ≤ W (val A B p) :=
  fadd_keeps (rg_mul fd hq.fin) (rg_mul fd hp.fin) (fmul_lt _ _) (fmul_lt _ _) (mul_down (fsub_lt _ _) fd (sub_le hA hB fA fB h) hp hq hle) (val_rg fB fd hq) (val_rg fB fd hp)
theorem val_end {A B : Nat} (fB : rg B < 2139095040) (fd : rg (fsub A B) < 2139095040) : W (val A B 0) = W B := by
  have hz : W (fmul (fsub A B) 0) = 0 := by rw [fmul_comm]; exact mul_zero (by decide) fd
  have fz : rg (fmul (fsub A B) 0) < 2139095040 := fin_of (lo := 0) (hi := 0) (rg_mul fd (by decide)) (by decide) (by decide) (by rw [W_zero, hz]; exact Int.le_refl _) (by rw [W_zero, hz]; exact Int.le_refl _)
  obtain ⟨z, hr, e⟩ := W_add fz fB
  rw [← W_V, ← W_V, hz, Int.zero_add] at hr
  have hx := hr.exact (rep_V B)
  have := W_fin fB
  unfold val
  rw [e, hx]
  omega
end Go.Proofs.YtmfladkimmnccaaDoor.Swe
