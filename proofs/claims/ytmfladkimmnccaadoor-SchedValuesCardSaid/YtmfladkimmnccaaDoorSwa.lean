/- Wave of the reference is Wave of the package; the law's head. No condition. -/
import Derived.Test.YtmfladkimmnccaaDoorRlb
import Derived.Test.YtmfladkimmnccaaDoorRlc
import Derived.Test.YtmfladkimmnccaaDoorRle
import Derived.Test.YtmfladkimmnccaaDoorPVx14
import Derived.Test.YtmfladkimmnccaaDoorPWx1
set_option linter.unusedVariables false
set_option linter.unusedSimpArgs false
namespace Go.Proofs.YtmfladkimmnccaaDoor.Swv
open Go.RowKit Lathe Go.Proofs.YtmfladkimmnccaaDoor.PW Go.Proofs.YtmfladkimmnccaaDoor.Rlb Go.Proofs.YtmfladkimmnccaaDoor.Rlc Go.Proofs.YtmfladkimmnccaaDoor.Rle Go.Proofs.YtmfladkimmnccaaDoorW.PrintWords Go.Proofs.YtmfladkimmnccaaDoorW.PrintMore

theorem write_lt (d : Ieee.Datum) : Ieee.single.write d < 4294967296 := Ieee.Format.write_lt Ieee.single d
theorem res_lt {o : Option Ieee.Datum} : res (o.map Ieee.single.write) < 4294967296 := by
  cases o with
  | none => show (2143289344 : Nat) < 4294967296; omega
  | some d => exact write_lt d
theorem fadd_lt (a b : Nat) : fadd a b < 4294967296 := res_lt
theorem fsub_lt (a b : Nat) : fsub a b < 4294967296 := res_lt
theorem fmul_lt (a b : Nat) : fmul a b < 4294967296 := res_lt
def LS : List Int := [3167971577, 1047591555, 3215649252, 1082253560, 3231574502, 1065353216]
theorem wave_step (k i n u x c : Nat) (hi : i < 6) (hc : rd LS (i : Int) = (c : Int)) (hn : n < 4294967296) (hu : u < 4294967296) (hcl : c < 4294967296) (hk : 100 ≤ k) :
    latheref14_Wave.l0 (k + 1) (x : Int) (u : Int) LS (n : Int) (i : Int) = latheref14_Wave.l0 k (x : Int) (u : Int) LS ((fadd (fmul n u) c : Nat) : Int) ((i + 1 : Nat) : Int) := by
  have hw : wrap64 ((i : Int) + 1) = ((i + 1 : Nat) : Int) := by unfold wrap64; omega
  simp only [latheref14_Wave.l0]
  rw [if_pos (show (i : Int) < (LS.length : Int) by show (i : Int) < 6; omega), Mul_f k n u hn hu (by omega)]
  simp -implicitDefEqProofs only [Option.bind_some]
  rw [if_pos (show (0 : Int) ≤ (i : Int) by omega), hc, Add_f k _ c (fmul_lt _ _) hcl (by omega)]
  simp -implicitDefEqProofs only [Option.bind_some]
  rw [hw]
theorem wave_l0 (k u x : Nat) (hu : u < 4294967296) (hx : x < 4294967296) (hk : 110 ≤ k) :
    latheref14_Wave.l0 k (x : Int) (u : Int) LS 989653445 0 = some (((if flt 1056964608 x = true then fneg (Wav.poly u) else Wav.poly u) : Nat) : Int) := by
  obtain ⟨k, rfl⟩ : ∃ m, k = m + 7 := ⟨k - 7, by omega⟩
  have s0 := wave_step (k + 6) 0 989653445 u x 3167971577 (by omega) rfl (by omega) hu (by omega) (by omega)
  have s1 := fun n hn => wave_step (k + 5) 1 n u x 1047591555 (by omega) rfl hn hu (by omega) (by omega)
  have s2 := fun n hn => wave_step (k + 4) 2 n u x 3215649252 (by omega) rfl hn hu (by omega) (by omega)
  have s3 := fun n hn => wave_step (k + 3) 3 n u x 1082253560 (by omega) rfl hn hu (by omega) (by omega)
  have s4 := fun n hn => wave_step (k + 2) 4 n u x 3231574502 (by omega) rfl hn hu (by omega) (by omega)
  have s5 := fun n hn => wave_step (k + 1) 5 n u x 1065353216 (by omega) rfl hn hu (by omega) (by omega)
  refine s0.trans ((s1 _ (fadd_lt _ _)).trans ((s2 _ (fadd_lt _ _)).trans ((s3 _ (fadd_lt _ _)).trans ((s4 _ (fadd_lt _ _)).trans ((s5 _ (fadd_lt _ _)).trans ?_)))))
  simp only [latheref14_Wave.l0]
  rw [if_neg (show ¬ ((5 + 1 : Nat) : Int) < (LS.length : Int) by show ¬ (6 : Int) < 6; omega)]
  have hl : latheref02_Less.f k 1056964608 (x : Int) = some (flt 1056964608 x) := Less_f k 1056964608 x (by omega) hx (by omega)
  rw [hl]
  simp -implicitDefEqProofs only [Option.bind_some]
  by_cases h : flt 1056964608 x = true
  · rw [if_pos h, if_pos h, Neg_f _ (fadd_lt _ _)]
    rfl
  · rw [if_neg h, if_neg h]
    rfl
/-- The reference's Wave. -/
theorem Wave_f (k a : Nat) (ha : a < 4294967296) (hk : 120 ≤ k) : latheref14_Wave.f k (a : Int) = some ((Wav.wv (a : Int) : Nat) : Int) := by
  have h0 : latheref02_Max.f (a : Int) 0 = some ((fmax a 0 : Nat) : Int) := Max_f a 0 ha (by omega)
  have hm : fmax a 0 < 4294967296 := fmax_lt ha (by omega)
  have h1 : latheref02_Min.f ((fmax a 0 : Nat) : Int) 1065353216 = some ((fmin (fmax a 0) 1065353216 : Nat) : Int) := Min_f _ 1065353216 hm (by omega)
  have hy : fmin (fmax a 0) 1065353216 < 4294967296 := fmin_lt hm (by omega)
  unfold latheref14_Wave.f Wav.wv
  rw [h0]
  simp -implicitDefEqProofs only [Option.bind_some]
  rw [h1]
  simp -implicitDefEqProofs only [Option.bind_some]
  rw [Canon_f _ hy, andNot_u32 a ha, Int.toNat_natCast]
  simp -implicitDefEqProofs only [Option.bind_some]
  by_cases hn : 2139095040 < rg a
  · rw [if_pos (show ((rg a : Nat) : Int) > 2139095040 by omega), fmax_nan (.inl hn), fmin_nan (.inl (by decide))]
    rw [if_pos (by decide)]
    rfl
  · rw [if_neg (show ¬ ((rg a : Nat) : Int) > 2139095040 by omega)]
    have n1 : rg (fmax a 0) ≤ 2139095040 := by
      rw [fmax_num (by omega) (by decide) ha (by omega)]
      split
      · decide
      · omega
    have n2 : rg (fmin (fmax a 0) 1065353216) ≤ 2139095040 := by
      rw [fmin_num n1 (by decide) hm (by omega)]
      split
      · decide
      · exact n1
    generalize fmin (fmax a 0) 1065353216 = y at *
    rw [tl_num n2, if_neg (by intro h; have h' : y = 2143289344 := by omega
                              rw [h'] at n2; exact absurd n2 (by decide))]
    by_cases h2 : y = 1056964608
    · rw [if_pos (by omega), if_pos h2]
      rfl
    rw [if_neg (by omega), if_neg h2]
    have hl : latheref02_Less.f k 1056964608 (y : Int) = some (flt 1056964608 y) := Less_f k 1056964608 y (by omega) hy (by omega)
    rw [hl]
    simp -implicitDefEqProofs only [Option.bind_some]
    obtain ⟨k, rfl⟩ : ∃ m, k = m + 1 := ⟨k - 1, by omega⟩
    have hj : ∀ x t : Nat, x < 4294967296 → t < 4294967296 → latheref14_Wave.j0 (k + 1) (x : Int) (t : Int) = some (((if flt 1056964608 x = true then fneg (Wav.poly (fmul t t)) else Wav.poly (fmul t t)) : Nat) : Int) := by
      intro x t hx ht
      simp only [latheref14_Wave.j0]
      rw [Mul_f k t t ht ht (by omega)]
      simp -implicitDefEqProofs only [Option.bind_some]
      exact wave_l0 k _ x (fmul_lt _ _) hx (by omega)
    by_cases h3 : flt 1056964608 y = true
    · rw [if_pos h3, if_pos h3]
      have hs : latheref02_Sub.f (k + 1) 1065353216 (y : Int) = some ((fsub 1065353216 y : Nat) : Int) := Sub_f (k + 1) 1065353216 y (by omega) hy (by omega)
      rw [hs]
      simp -implicitDefEqProofs only [Option.bind_some]
      rw [hj _ _ hy (fsub_lt _ _), if_pos h3]
    · rw [if_neg h3, if_neg h3, hj _ _ hy hy, if_neg h3]
theorem wv_lt (a : Nat) (ha : a < 4294967296) : Wav.wv (a : Int) < 4294967296 := by
  unfold Wav.wv
  split
  · omega
  split
  · omega
  split
  · exact fneg_lt (fadd_lt _ _)
  · exact fadd_lt _ _
end Go.Proofs.YtmfladkimmnccaaDoor.Swv
