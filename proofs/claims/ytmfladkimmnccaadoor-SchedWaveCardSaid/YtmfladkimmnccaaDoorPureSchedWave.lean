/- SchedWave: the wave lies from -1 to 1, mirrored about a half it is turned, at 0 it is 1. No condition. -/
import Derived.Test.YtmfladkimmnccaaDoorSwb
import Derived.Test.YtmfladkimmnccaaDoorPWx9
set_option linter.unusedVariables false
set_option linter.unusedSimpArgs false
namespace Go.Proofs.YtmfladkimmnccaaDoor.Pure
open Go.RowKit Lathe Go.Proofs.YtmfladkimmnccaaDoor.PW Go.Proofs.YtmfladkimmnccaaDoor.Swv Go.Proofs.YtmfladkimmnccaaDoor.Swb Go.Proofs.YtmfladkimmnccaaDoor.Rlb Go.Proofs.YtmfladkimmnccaaDoor.Rlc Go.Proofs.YtmfladkimmnccaaDoor.Rle

theorem rg_small {n : Nat} (h : n ≤ 1065353216) : rg n = n := Nat.mod_eq_of_lt (by omega)
theorem W_small {n : Nat} (h : n ≤ 1065353216) : W n = (U 23 n : Int) := by
  unfold W sg
  rw [rg_small h, Nat.div_eq_of_lt (by omega)]
  rfl
theorem key_small {n : Nat} (h : n ≤ 1065353216) : key n = n := by
  unfold key sg
  rw [rg_small h, Nat.div_eq_of_lt (by omega)]
  rfl
/-- The wave from 0 to a half. -/
theorem wv_low {n : Nat} (h : n < 1056964608) : Wav.wv (n : Int) = Wav.poly (fmul n n) := by
  have r := rg_small (n := n) (by omega)
  have hmax : fmax n 0 = n := by
    rw [fmax_num (by omega) (by decide) (by omega) (by decide), key_small (by omega), key_small (by omega)]
    split <;> omega
  have hmin : fmin n 1065353216 = n := by
    rw [fmin_num (by omega) (by decide) (by omega) (by decide), key_small (by omega), key_small (by omega)]
    split <;> omega
  unfold Wav.wv
  rw [andNot_u32 n (by omega), Int.toNat_natCast, hmax, hmin, r, if_neg (by omega), if_neg (by omega), if_neg]
  rw [flt_num (by decide) (by omega), W_small (by omega), W_small (by omega)]
  have := U_mono (f := 23) h
  simp only [decide_eq_true_eq]
  omega
theorem wv_half : Wav.wv (1056964608 : Int) = 0 := by decide +kernel
/-- The wave from a half to 1. -/
theorem wv_high {n : Nat} (h : 1056964608 < n) (h1 : n ≤ 1065353216) : Wav.wv (n : Int) = fneg (Wav.poly (fmul (fsub 1065353216 n) (fsub 1065353216 n))) := by
  have r := rg_small (n := n) (by omega)
  have hmax : fmax n 0 = n := by
    rw [fmax_num (by omega) (by decide) (by omega) (by decide), key_small (by omega), key_small (by omega)]
    split <;> omega
  have hmin : fmin n 1065353216 = n := by
    rw [fmin_num (by omega) (by decide) (by omega) (by decide), key_small (by omega), key_small (by omega)]
    split <;> omega
  unfold Wav.wv
  rw [andNot_u32 n (by omega), Int.toNat_natCast, hmax, hmin, r, if_neg (by omega), if_neg (by omega), if_pos]
  rw [flt_num (by decide) (by omega), W_small (by omega), W_small (by omega)]
  have := U_mono (f := 23) h
  simp only [decide_eq_true_eq]
  omega
/-- 1 less what lies from a half to 1 is exact. -/
theorem mirror {n : Nat} (h : 1056964608 < n) (h1 : n ≤ 1065353216) : fsub 1065353216 n < 1056964608 := by
  have fn : rg n < 2139095040 := by rw [rg_small h1]; omega
  have u1 : U 23 1065353216 = 2 * U 23 1056964608 := by decide +kernel
  have um := U_mono (f := 23) h
  have ul := U_le (f := 23) h1
  obtain ⟨r, hr⟩ := sterbenz (x := U 23 1065353216) (y := U 23 n) ⟨_, rfl⟩ ⟨_, rfl⟩ (by omega) ul
  have hrlt : r < 1056964608 := U_lt_iff.1 (show U 23 r < U 23 1056964608 by omega)
  rw [fsub_flip (by omega)]
  obtain ⟨R, g, e⟩ := fadd_fin (a := 1065353216) (b := flip n) (by decide) (by rw [rg_flip (by omega)]; exact fn)
  have hv : V 1065353216 + V (flip n) = (U 23 r : Int) := by
    rw [V_flip (by omega), ← W_V, ← W_V, W_small (by omega), W_small h1]
    omega
  rw [hv] at g e
  have g := near_iff.2 g
  have hR : R = r := g.unique (Near.self 23 r) (by omega) (by omega) (by rw [Int.natAbs_natCast])
  have hs : (if (U 23 r : Int) = 0 then sg 1065353216 && sg (flip n) else decide ((U 23 r : Int) < 0)) = false := by
    split
    · rfl
    · rw [decide_eq_false_iff_not]; omega
  rw [e, hs, hR]
  unfold pk
  simp only [Bool.false_eq_true, if_false]
  omega
theorem half_up {n : Nat} (h : n ≤ 1065353216) : ∃ p, In (fneg 1065353216) 1065353216 p ∧ Wav.wv (n : Int) = p := by
  rcases Nat.lt_trichotomy n 1056964608 with c | c | c
  · exact ⟨_, poly_in (small (by omega)), wv_low c⟩
  · subst c
    exact ⟨0, ⟨by decide, by decide, by decide +kernel, by decide +kernel⟩, wv_half⟩
  · have hm := mirror c h
    have hp := poly_in (small (t := fsub 1065353216 n) (by omega))
    refine ⟨_, ?_, wv_high c h⟩
    obtain ⟨p1, p2, p3, p4⟩ := hp
    have wn : W (fneg 1065353216) = -W 1065353216 := W_neg (by decide) (by decide)
    refine ⟨fneg_lt p1, by rw [rg_neg p1 (by omega)]; exact p2, ?_, ?_⟩
    · rw [W_neg p1 (by omega)]; omega
    · rw [W_neg p1 (by omega)]; omega
theorem SchedWave : lathelaw14_SchedWave.Pure := by
  intro a0 h0
  obtain ⟨a, rfl, ha⟩ := pat h0
  refine ⟨200 + 1, ?_⟩
  have hrl := rg_lt a
  unfold lathelaw14_SchedWave.f sched_Wave.f
  rw [andNot_u32 a ha, show wrap64 ((rg a : Nat) : Int) = ((rg a : Nat) : Int) by unfold wrap64; omega]
  generalize rg a = n at *
  by_cases hn : n > 1065353216
  · rw [if_pos (by omega), works (200 + 1) (by omega)]
    rfl
  rw [if_neg (by omega), show ((n : Nat) : Int) % 4294967296 = (n : Int) by omega]
  obtain ⟨p, ⟨p1, p2, p3, p4⟩, hp⟩ := half_up (n := n) (by omega)
  have wn : W (fneg 1065353216) = -W 1065353216 := W_neg (by decide) (by decide)
  have hw1 : W 1065353216 = (U 23 1065353216 : Int) := W_small (by decide)
  have hab := W_abs p
  have hle : rg p ≤ 1065353216 := U_le_iff.1 (show U 23 (rg p) ≤ U 23 1065353216 by omega)
  have hfa : fabs p = rg p := by
    unfold fabs
    exact tl_num (by rw [rg_small hle]; omega)
  have hles : latheref02_Less.f (200 + 1) 1065353216 ((fabs p : Nat) : Int) = some (flt 1065353216 (fabs p)) := Less_f (200 + 1) 1065353216 (fabs p) (by omega) (by rw [hfa]; omega) (by omega)
  have hfl : flt 1065353216 (fabs p) = false := by
    rw [hfa, flt_num (by decide) (by rw [rg_small hle]; omega), W_small (by decide), W_small hle]
    have := U_le (f := 23) hle
    rw [decide_eq_false_iff_not]
    omega
  have w0 : Wav.wv (0 : Int) = 1065353216 := by decide +kernel
  have w1 : Wav.wv (1065353216 : Int) = 3212836864 := by decide +kernel
  simp -implicitDefEqProofs only [Option.bind_some]
  rw [hp, show wrap64 ((p : Nat) : Int) = ((p : Nat) : Int) by unfold wrap64; omega, Abs_f p p1]
  simp -implicitDefEqProofs only [Option.bind_some]
  rw [hles, hfl]
  simp -implicitDefEqProofs only [Option.bind_some]
  rw [if_neg (by decide), w0, if_pos (show ((1065353216 : Nat) : Int) = 1065353216 from rfl), w1, if_pos (show ((3212836864 : Nat) : Int) = 3212836864 from rfl), wv_half]
  have hj : lathelaw14_SchedWave.j0 (200 + 1) (n : Int) (p : Int) false = some true := by
    simp only [lathelaw14_SchedWave.j0]
    rw [if_neg (by decide)]
    by_cases hh : n > 1056964608
    · have hm := mirror hh (by omega)
      have hs : latheref02_Sub.f 200 1065353216 (n : Int) = some ((fsub 1065353216 n : Nat) : Int) := Sub_f 200 1065353216 n (by omega) (by omega) (by omega)
      rw [if_pos (by omega), hs]
      unfold sched_Wave.f
      simp -implicitDefEqProofs only [Option.bind_some]
      rw [show ((fsub 1065353216 n : Nat) : Int) % 4294967296 = ((fsub 1065353216 n : Nat) : Int) by omega, wv_low hm, Neg_f p p1]
      simp -implicitDefEqProofs only [Option.bind_some]
      have hq := wv_high hh (by omega)
      rw [hp] at hq
      obtain ⟨q1, q2, q3, q4⟩ := poly_in (small (t := fsub 1065353216 n) (by omega))
      rw [hq, fneg_fneg q1 (by omega), if_pos (by unfold wrap64; omega), works 200 (by omega)]
      rfl
    · rw [if_neg (by omega), works 200 (by omega)]
      rfl
  exact hj
end Go.Proofs.YtmfladkimmnccaaDoor.Pure
