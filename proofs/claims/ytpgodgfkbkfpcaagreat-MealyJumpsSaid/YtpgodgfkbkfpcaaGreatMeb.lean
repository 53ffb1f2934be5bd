/- Small functions at one half. No condition. -/
import Derived.Test.YtpgodgfkbkfpcaaGreatProg
import Derived.Test.YtpgodgfkbkfpcaaGreatTab
import Derived.OwnWalk
import Derived.Test.YtpgodgfkbkfpcaaGreatFpa
set_option linter.unusedVariables false
set_option linter.unusedSimpArgs false
namespace Go.Proofs.YtpgodgfkbkfpcaaGreat.Meb
open Go.RowKit Lathe
set_option maxHeartbeats 400000 in
set_option maxRecDepth 100000 in
theorem parts_half (W : World) : Calls Tryz.prog 148 #[.int .u32 1056964608] W fun e w' => e = .returned (.tuple #[.bool false, .int .i64 126, .int .i64 0]) ∧ w' = W := by
  go_enter Tryz.func148, Tryz.ntmps148
  go_wp2
  go_ret3
  exact ⟨by kernel_rfl, rfl⟩
set_option maxHeartbeats 400000 in
set_option maxRecDepth 100000 in
theorem class_half (W : World) : Calls Tryz.prog 94 #[.int .u32 1056964608] W fun e w' => e = .returned (.int .i64 3) ∧ w' = W := by
  go_enter Tryz.func94, Tryz.ntmps94
  go_wp2_with (go_at_call 148; refine (parts_half _).mono ?_; rintro e w' ⟨rfl, rfl⟩)
  go_ret
  exact ⟨rfl, rfl⟩
set_option maxHeartbeats 400000 in
set_option maxRecDepth 100000 in
theorem finite_half (W : World) : Calls Tryz.prog 177 #[.int .u32 1056964608] W fun e w' => e = .returned (.bool true) ∧ w' = W := by
  go_enter Tryz.func177, Tryz.ntmps177
  go_wp2_with (go_at_call 94; refine (class_half _).mono ?_; rintro e w' ⟨rfl, rfl⟩)
  go_ret
  exact ⟨rfl, rfl⟩
theorem frombits_any (a : Int) (w : World) : (callFunc 93 #[.int .u32 a]).run Tryz.prog w = .ok (.value (.float .f32 a.toNat)) w := by
  rw [run_callFunc_extern (e := Extern.MathFloatBits.float32frombits) Tryz.func93 (by kernel_rfl) (by kernel_rfl) (by kernel_rfl) (by kernel_rfl)]
  rfl
theorem bits_any (a : Nat) (w : World) : (callFunc 67 #[.float .f32 a]).run Tryz.prog w = .ok (.value (.int .u32 a)) w := by
  rw [run_callFunc_extern (e := Extern.MathFloatBits.float32bits) Tryz.func67 (by kernel_rfl) (by kernel_rfl) (by kernel_rfl) (by kernel_rfl)]
  rfl
theorem of_any (a : Int) (w : World) : Calls Tryz.prog 225 #[.int .u32 a] w fun e w' => e = .returned (.float .f32 a.toNat) ∧ w' = w := by
  have h := frombits_any
  go_enter Tryz.func225, Tryz.ntmps225
  go_wp2
  go_ret
  exact ⟨rfl, rfl⟩
theorem told_any (a : Nat) (w : World) : Calls Tryz.prog 288 #[.float .f32 a] w fun e w' => e = .returned (.int .u32 (tl a)) ∧ w' = w := by
  have h := bits_any
  have h2 : FloatKind.f32.format = Ieee.single := rfl
  by_cases h3 : Ieee.single.order a a = some .eq
  · have h4 : tl a = a := by simp [tl, h3]
    rw [h4]
    go_enter Tryz.func288, Tryz.ntmps288
    go_wp2
    go_ret
    exact ⟨rfl, rfl⟩
  · have h4 : tl a = 2143289344 := by simp [tl, h3]
    rw [h4]
    have h5 : (Ieee.single.order a a != some .eq) = true := by simp [h3]
    clear h3
    go_enter Tryz.func288, Tryz.ntmps288
    go_wp2
    go_ret
    exact ⟨rfl, rfl⟩
theorem Add (a b : Int) (w : World) : Calls Tryz.prog 285 #[.int .u32 a, .int .u32 b] w fun e w' => e = .returned (.int .u32 (fadd a.toNat b.toNat : Nat)) ∧ ∃ q, w' = w.drewN q := by
  have h := run_f32_add (P := Tryz.prog)
  rw [← tl_add a.toNat b.toNat w]
  go_enter Tryz.func285, Tryz.ntmps285
  go_wp2_with (first | (go_at_call 225; refine (of_any _ _).mono ?_; rintro e w' ⟨rfl, rfl⟩) | (go_at_call 288; refine (told_any _ _).mono ?_; rintro e w' ⟨rfl, rfl⟩))
  go_ret
  exact ⟨rfl, _, rfl⟩
theorem Mul (a b : Int) (w : World) : Calls Tryz.prog 292 #[.int .u32 a, .int .u32 b] w fun e w' => e = .returned (.int .u32 (fmul a.toNat b.toNat : Nat)) ∧ ∃ q, w' = w.drewN q := by
  have h := run_f32_mul (P := Tryz.prog)
  rw [← tl_mul a.toNat b.toNat w]
  go_enter Tryz.func292, Tryz.ntmps292
  go_wp2_with (first | (go_at_call 225; refine (of_any _ _).mono ?_; rintro e w' ⟨rfl, rfl⟩) | (go_at_call 288; refine (told_any _ _).mono ?_; rintro e w' ⟨rfl, rfl⟩))
  go_ret
  exact ⟨rfl, _, rfl⟩
theorem Less (a b : Int) (w : World) : Calls Tryz.prog 216 #[.int .u32 a, .int .u32 b] w fun e w' => e = .returned (.bool (flt a.toNat b.toNat)) ∧ w' = w := by
  go_enter Tryz.func216, Tryz.ntmps216
  go_wp2_with (first | (go_at_call 225; refine (of_any _ _).mono ?_; rintro e w' ⟨rfl, rfl⟩) | (go_at_call 288; refine (told_any _ _).mono ?_; rintro e w' ⟨rfl, rfl⟩))
  go_ret
  exact ⟨rfl, rfl⟩
theorem flt_half0 : flt (1056964608 : Int).toNat (0 : Int).toNat = false := by kernel_rfl
theorem flt_one_half : flt (1065353216 : Int).toNat (1056964608 : Int).toNat = false := by kernel_rfl
theorem from0_half (w : World) : Calls Tryz.prog 201 #[.int .u32 1056964608] w fun e w' => e = .returned (.bool true) ∧ w' = w := by
  have h := Less 1056964608 0 w
  rw [flt_half0] at h
  go_enter Tryz.func201, Tryz.ntmps201
  go_wp2_with (go_at_call 216; refine h.mono ?_; rintro e w' ⟨rfl, rfl⟩)
  go_ret
  exact ⟨rfl, rfl⟩
set_option maxRecDepth 100000 in
theorem to1_half (w : World) : Calls Tryz.prog 203 #[.int .u32 1056964608] w fun e w' => e = .returned (.bool true) ∧ w' = w := by
  have h := Less 1065353216 1056964608 w
  rw [flt_one_half] at h
  go_enter Tryz.func203, Tryz.ntmps203
  go_wp2_with (first | (go_at_call 201; refine (from0_half _).mono ?_; rintro e w' ⟨rfl, rfl⟩) | (go_at_call 216; refine h.mono ?_; rintro e w' ⟨rfl, rfl⟩))
  go_ret
  exact ⟨rfl, rfl⟩
end Go.Proofs.YtpgodgfkbkfpcaaGreat.Meb
