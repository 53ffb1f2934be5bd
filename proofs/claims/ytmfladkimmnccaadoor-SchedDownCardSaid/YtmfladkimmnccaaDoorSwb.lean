/- The wave's polynomial lies from -1 to 1 for every number from 0 to a half. No condition. -/
import Derived.Test.YtmfladkimmnccaaDoorSwv
import Derived.Test.YtmfladkimmnccaaDoorFpd
import Derived.Test.YtmfladkimmnccaaDoorFpe
import Derived.Test.YtmfladkimmnccaaDoorFpf
set_option linter.unusedVariables false
set_option linter.unusedSimpArgs false
namespace Go.Proofs.YtmfladkimmnccaaDoor.Swb
open Lathe Go.Proofs.YtmfladkimmnccaaDoor.Rlc Go.Proofs.YtmfladkimmnccaaDoor.Swv

theorem rg_is {s : Bool} {c : Nat → Ordering} {x : Nat} (h : Is s c x) : rg x ≤ 2139095040 := by
  obtain ⟨R, g, rfl⟩ := h
  rw [rg_pk (by omega)]
  omega
theorem rg_add {a b : Nat} (ha : rg a < 2139095040) (hb : rg b < 2139095040) : rg (fadd a b) ≤ 2139095040 := rg_is (fadd_fin ha hb)
theorem rg_mul {a b : Nat} (ha : rg a < 2139095040) (hb : rg b < 2139095040) : rg (fmul a b) ≤ 2139095040 := rg_is (fmul_fin ha hb)
theorem mul_zero {a b : Nat} (ha : rg a = 0) (hb : rg b < 2139095040) : W (fmul a b) = 0 := by
  obtain ⟨R, g, e⟩ := fmul_fin (a := a) (b := b) (by omega) hb
  obtain ⟨R0, g0, e0⟩ := fmul_fin (a := 0) (b := 0) (by decide) (by decide)
  have h0 : R0 = 0 := by
    have h1 : fmul 0 0 = 0 := by decide +kernel
    rw [h1] at e0
    unfold pk at e0
    simp only [show (sg 0 ^^ sg 0) = false from rfl, Bool.false_eq_true, if_false] at e0
    omega
  rw [ha, U_zero, Nat.zero_mul] at g
  rw [show rg 0 = 0 from rfl, U_zero, Nat.zero_mul] at g0
  have : R = 0 := by rw [g.unique g0 (sane_cq _ _ (Nat.two_pow_pos 149)), h0]
  rw [e, this, W_pk (by decide)]
  split
  · rw [show min 0 2139095040 = 0 from rfl, U_zero]; rfl
  · rw [show min 0 2139095040 = 0 from rfl, U_zero]; rfl
theorem W_neg {a : Nat} (ha : a < 4294967296) (h : rg a ≤ 2139095040) : W (fneg a) = -W a := by
  rw [fneg_num ha h]
  exact V_flip ha
theorem rg_neg {a : Nat} (ha : a < 4294967296) (h : rg a ≤ 2139095040) : rg (fneg a) = rg a := by
  rw [fneg_num ha h, rg_flip ha]
theorem W_abs (a : Nat) : (W a).natAbs = U 23 (rg a) := by
  unfold W
  split <;> omega
theorem fin_of {lo hi r : Nat} (h : rg r ≤ 2139095040) (hl : rg lo < 2139095040) (hh : rg hi < 2139095040) (h1 : W lo ≤ W r) (h2 : W r ≤ W hi) : rg r < 2139095040 := by
  have a1 := W_abs lo
  have a2 := W_abs r
  have a3 := W_abs hi
  have b1 := U_mono (f := 23) hl
  have b3 := U_mono (f := 23) hh
  rcases Nat.lt_or_ge (rg r) 2139095040 with c | c
  · exact c
  · have : rg r = 2139095040 := by omega
    rw [this] at a2
    omega
theorem sg_false {r : Nat} (h : 0 ≤ W r) (h0 : rg r ≠ 0) : sg r = false := by
  unfold W at h
  cases hs : sg r with
  | false => rfl
  | true =>
    rw [hs] at h
    simp only [if_true] at h
    have := U_pos (f := 23) (r := rg r) (by omega)
    omega
theorem W_zero : W 0 = 0 := by decide +kernel
/-- A number between two. -/
structure In (lo hi r : Nat) : Prop where
  lt : r < 4294967296
  fin : rg r < 2139095040
  ge : W lo ≤ W r
  le : W r ≤ W hi
/-- u lies from 0 to a quarter. -/
structure Small (u : Nat) : Prop where
  fin : rg u < 2139095040
  ge : 0 ≤ W u
  le : W u ≤ W 1048576000
theorem mulP {hi u r : Nat} (hr : In 0 hi r) (hu : Small u) (hh : rg hi < 2139095040) (k : 0 ≤ W (fmul hi 1048576000)) : 0 ≤ W (fmul r u) ∧ W (fmul r u) ≤ W (fmul hi 1048576000) := by
  have q : rg 1048576000 < 2139095040 := by decide
  have g0 := hr.ge
  rw [W_zero] at g0
  by_cases hz : rg r = 0
  · rw [mul_zero hz hu.fin]; exact ⟨Int.le_refl _, k⟩
  · have s := sg_false g0 hz
    have hf := hr.fin
    have uf := hu.fin
    have m1 := fmul_keeps (a := 0) (b := u) (c := r) (by decide) (by omega) (by rw [W_zero]; exact hu.ge) (by omega) hz s (rg_mul (by decide) hf) (rg_mul uf hf)
    have m2 := fmul_keeps (a := u) (b := 1048576000) (c := r) (by omega) (by decide) hu.le (by omega) hz s (rg_mul uf hf) (rg_mul q hf)
    have m3 := fmul_keeps (a := r) (b := hi) (c := 1048576000) (by omega) (by omega) hr.le (by decide) (by decide) (by decide) (rg_mul hf q) (rg_mul hh q)
    rw [mul_zero (by decide) hf, fmul_comm u r] at m1
    rw [fmul_comm u r, fmul_comm 1048576000 r] at m2
    exact ⟨m1, by omega⟩
theorem neg_in {L r : Nat} (hL : L < 4294967296) (fL : rg L < 2139095040) (hr : In (fneg L) 0 r) : In 0 L (fneg r) := by
  obtain ⟨h1, h2, h3, h4⟩ := hr
  rw [W_neg hL (by omega)] at h3
  rw [W_zero] at h4
  refine ⟨fneg_lt h1, by rw [rg_neg h1 (by omega)]; exact h2, ?_, ?_⟩
  · rw [W_zero, W_neg h1 (by omega)]; omega
  · rw [W_neg h1 (by omega)]; omega
theorem mulN {L u r : Nat} (hL : L < 4294967296) (fL : rg L < 2139095040) (hr : In (fneg L) 0 r) (hu : Small u) (k : 0 ≤ W (fmul L 1048576000)) : -W (fmul L 1048576000) ≤ W (fmul r u) ∧ W (fmul r u) ≤ 0 := by
  have m := mulP (neg_in hL fL hr) hu fL k
  rw [fmul_neg hr.lt u, W_neg (fmul_lt _ _) (rg_mul hr.fin hu.fin)] at m
  omega
/-- A round whose number is not below 0. -/
theorem stepP {hi L c u r : Nat} (hr : In 0 hi r) (hu : Small u) (hh : rg hi < 2139095040) (hc : rg c < 2139095040) (k : 0 ≤ W (fmul hi 1048576000)) (kf : rg (fmul hi 1048576000) < 2139095040)
    (hL : rg (fneg L) < 2139095040) (k1 : W (fneg L) ≤ W (fadd 0 c)) (k2 : W (fadd (fmul hi 1048576000) c) ≤ W 0) : In (fneg L) 0 (fadd (fmul r u) c) := by
  obtain ⟨m1, m2⟩ := mulP hr hu hh k
  have mf : rg (fmul r u) < 2139095040 := fin_of (lo := 0) (rg_mul hr.fin hu.fin) (by decide) kf (by rw [W_zero]; exact m1) m2
  have a1 := fadd_keeps (a := 0) (b := fmul r u) (c := c) (by decide) (by omega) (by decide) (fmul_lt _ _) (by rw [W_zero]; exact m1) (rg_add (by decide) hc) (rg_add mf hc)
  have a2 := fadd_keeps (a := fmul r u) (b := fmul hi 1048576000) (c := c) (by omega) (by omega) (fmul_lt _ _) (fmul_lt _ _) m2 (rg_add mf hc) (rg_add kf hc)
  exact ⟨fadd_lt _ _, fin_of (hi := 0) (rg_add mf hc) hL (by decide) (by omega) (by omega), by omega, by omega⟩
/-- A round whose number is not above 0. -/
theorem stepN {L lo hi c u r : Nat} (hr : In (fneg L) 0 r) (hu : Small u) (hL : L < 4294967296) (fL : rg L < 2139095040) (hc : rg c < 2139095040) (k : 0 ≤ W (fmul L 1048576000)) (kf : rg (fmul L 1048576000) < 2139095040)
    (hl : rg lo < 2139095040) (hh : rg hi < 2139095040) (k1 : W lo ≤ W (fadd (fneg (fmul L 1048576000)) c)) (k2 : W (fadd 0 c) ≤ W hi) : In lo hi (fadd (fmul r u) c) := by
  obtain ⟨m1, m2⟩ := mulN hL fL hr hu k
  have wn := W_neg (fmul_lt L 1048576000) (by omega)
  have rn := rg_neg (fmul_lt L 1048576000) (by omega)
  have mf : rg (fmul r u) < 2139095040 := fin_of (lo := fneg (fmul L 1048576000)) (hi := 0) (rg_mul hr.fin hu.fin) (by omega) (by decide) (by omega) (by rw [W_zero]; exact m2)
  have a1 := fadd_keeps (a := fneg (fmul L 1048576000)) (b := fmul r u) (c := c) (by omega) (by omega) (fneg_lt (fmul_lt _ _)) (fmul_lt _ _) (by omega) (rg_add (by omega) hc) (rg_add mf hc)
  have a2 := fadd_keeps (a := fmul r u) (b := 0) (c := c) (by omega) (by decide) (fmul_lt _ _) (by decide) (by rw [W_zero]; exact m2) (rg_add mf hc) (rg_add (by decide) hc)
  exact ⟨fadd_lt _ _, fin_of (lo := lo) (hi := hi) (rg_add mf hc) hl hh (by omega) (by omega), by omega, by omega⟩
theorem poly_in {u : Nat} (hu : Small u) : In (fneg 1065353216) 1065353216 (Wav.poly u) := by
  have r5 : In 0 989653445 989653445 := ⟨by decide, by decide, by decide +kernel, Int.le_refl _⟩
  have r4 : In (fneg 1020487929) 0 _ := stepP (c := 3167971577) r5 hu (by decide) (by decide) (by decide +kernel) (by decide +kernel) (by decide +kernel) (by decide +kernel) (by decide +kernel)
  have r3 : In 0 1047591555 _ := stepN (c := 1047591555) r4 hu (by decide) (by decide) (by decide) (by decide +kernel) (by decide +kernel) (by decide) (by decide) (by decide +kernel) (by decide +kernel)
  have r2 : In (fneg 1068165604) 0 _ := stepP (c := 3215649252) r3 hu (by decide) (by decide) (by decide +kernel) (by decide +kernel) (by decide +kernel) (by decide +kernel) (by decide +kernel)
  have r1 : In 0 1082253560 _ := stepN (c := 1082253560) r2 hu (by decide) (by decide) (by decide) (by decide +kernel) (by decide +kernel) (by decide) (by decide) (by decide +kernel) (by decide +kernel)
  have r0 : In (fneg 1084090854) 0 _ := stepP (c := 3231574502) r1 hu (by decide) (by decide) (by decide +kernel) (by decide +kernel) (by decide +kernel) (by decide +kernel) (by decide +kernel)
  exact stepN (c := 1065353216) r0 hu (by decide) (by decide) (by decide) (by decide +kernel) (by decide +kernel) (by decide +kernel) (by decide) (by decide +kernel) (by decide +kernel)
/-- A number from 0 to a half, squared. -/
theorem small {t : Nat} (ht : t ≤ 1056964608) : Small (fmul t t) := by
  have rt : rg t = t := Nat.mod_eq_of_lt (by omega)
  have st : sg t = false := by unfold sg; rw [Nat.div_eq_of_lt (by omega)]; rfl
  have ft : rg t < 2139095040 := by omega
  have wt : W t = (U 23 t : Int) := by unfold W; rw [st, rt]; rfl
  have wh : W 1056964608 = (U 23 1056964608 : Int) := by decide +kernel
  have hq : fmul 1056964608 1056964608 = 1048576000 := by decide +kernel
  by_cases h0 : t = 0
  · have := mul_zero (a := t) (b := t) (by omega) ft
    exact ⟨fin_of (lo := 0) (hi := 0) (rg_mul ft ft) (by decide) (by decide) (by rw [W_zero]; omega) (by rw [W_zero]; omega), by omega, by rw [this]; decide +kernel⟩
  · have hle : W t ≤ W 1056964608 := by rw [wt, wh]; have := U_le (f := 23) ht; omega
    have hge : W 0 ≤ W t := by rw [W_zero, wt]; omega
    have hf : rg 1056964608 < 2139095040 := by decide
    have m1 := fmul_keeps (a := 0) (b := t) (c := t) (by decide) (by omega) hge (by omega) (by omega) st (rg_mul (by decide) ft) (rg_mul ft ft)
    have m2 := fmul_keeps (a := t) (b := 1056964608) (c := t) (by omega) (by omega) hle (by omega) (by omega) st (rg_mul ft ft) (rg_mul hf ft)
    have m3 := fmul_keeps (a := t) (b := 1056964608) (c := 1056964608) (by omega) (by omega) hle (by decide) (by decide) (by decide) (rg_mul ft hf) (rg_mul hf hf)
    rw [mul_zero (by decide) ft] at m1
    rw [fmul_comm 1056964608 t] at m2
    rw [hq] at m3
    exact ⟨fin_of (lo := 0) (hi := 1048576000) (rg_mul ft ft) (by decide) (by decide) (by rw [W_zero]; exact m1) (by omega), m1, by omega⟩
end Go.Proofs.YtmfladkimmnccaaDoor.Swb
