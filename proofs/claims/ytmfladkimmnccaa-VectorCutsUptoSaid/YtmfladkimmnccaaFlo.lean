/- The contracts of package float's functions. No condition. -/
import Derived.Test.YtmfladkimmnccaaWal
import Derived.Test.YtmfladkimmnccaaFpa
import Derived.Test.YtmfladkimmnccaaFpb
import Derived.Test.YtmfladkimmnccaaProg
namespace Go.Proofs.Ytmfladkimmnccaa.Flo
open Go.RowKit Lathe Go.Proofs.YtmfladkimmnccaaW.PrintWords

theorem frombits_any (a : Int) (w : World) : (callFunc 136 #[.int .u32 a]).run Try.prog w = .ok (.value (.float .f32 a.toNat)) w := by
  rw [run_callFunc_extern (e := Extern.MathFloatBits.float32frombits) Try.func136 (by kernel_rfl) (by kernel_rfl) (by kernel_rfl) (by kernel_rfl)]
  rfl
theorem bits_any (a : Nat) (w : World) : (callFunc 135 #[.float .f32 a]).run Try.prog w = .ok (.value (.int .u32 a)) w := by
  rw [run_callFunc_extern (e := Extern.MathFloatBits.float32bits) Try.func135 (by kernel_rfl) (by kernel_rfl) (by kernel_rfl) (by kernel_rfl)]
  rfl

theorem of_any (a : Int) (w : World) : Calls Try.prog 117 #[.int .u32 a] w fun e w' => e = .returned (.float .f32 a.toNat) ∧ w = w' := by
  have h := frombits_any
  go_enter Try.func117, Try.ntmps117
  go_wp2
  go_ret
  exact ⟨rfl, rfl⟩

theorem told_any (a : Nat) (w : World) : Calls Try.prog 116 #[.float .f32 a] w fun e w' => e = .returned (.int .u32 (tl a)) ∧ w = w' := by
  have h := bits_any
  have h2 : FloatKind.f32.format = Ieee.single := rfl
  by_cases h3 : Ieee.single.order a a = some .eq
  · have h4 : tl a = a := by simp [tl, h3]
    rw [h4]
    go_enter Try.func116, Try.ntmps116
    go_wp2
    go_ret
    exact ⟨rfl, rfl⟩
  · have h4 : tl a = 2143289344 := by simp [tl, h3]
    rw [h4]
    have h5 : (Ieee.single.order a a != some .eq) = true := by simp [h3]
    clear h3
    go_enter Try.func116, Try.ntmps116
    go_wp2
    go_ret
    exact ⟨rfl, rfl⟩

theorem Add (a b : Int) (w : World) : Calls Try.prog 70 #[.int .u32 a, .int .u32 b] w fun e w' => e = .returned (.int .u32 (fadd a.toNat b.toNat : Nat)) ∧ Drawn0 w w' := by
  have h := run_f32_add (P := Try.prog)
  rw [← tl_add a.toNat b.toNat w]
  go_enter Try.func70, Try.ntmps70
  go_wp2_with (first | (go_at_call 117; refine (of_any _ _).mono ?_; rintro e w' ⟨rfl, rfl⟩) | (go_at_call 116; refine (told_any _ _).mono ?_; rintro e w' ⟨rfl, rfl⟩))
  go_ret
  exact ⟨rfl, ⟨⟨_, rfl⟩⟩⟩

theorem Sub (a b : Int) (w : World) : Calls Try.prog 105 #[.int .u32 a, .int .u32 b] w fun e w' => e = .returned (.int .u32 (fsub a.toNat b.toNat : Nat)) ∧ Drawn0 w w' := by
  have h := run_f32_sub (P := Try.prog)
  rw [← tl_sub a.toNat b.toNat w]
  go_enter Try.func105, Try.ntmps105
  go_wp2_with (first | (go_at_call 117; refine (of_any _ _).mono ?_; rintro e w' ⟨rfl, rfl⟩) | (go_at_call 116; refine (told_any _ _).mono ?_; rintro e w' ⟨rfl, rfl⟩))
  go_ret
  exact ⟨rfl, ⟨⟨_, rfl⟩⟩⟩

theorem Mul (a b : Int) (w : World) : Calls Try.prog 74 #[.int .u32 a, .int .u32 b] w fun e w' => e = .returned (.int .u32 (fmul a.toNat b.toNat : Nat)) ∧ Drawn0 w w' := by
  have h := run_f32_mul (P := Try.prog)
  rw [← tl_mul a.toNat b.toNat w]
  go_enter Try.func74, Try.ntmps74
  go_wp2_with (first | (go_at_call 117; refine (of_any _ _).mono ?_; rintro e w' ⟨rfl, rfl⟩) | (go_at_call 116; refine (told_any _ _).mono ?_; rintro e w' ⟨rfl, rfl⟩))
  go_ret
  exact ⟨rfl, ⟨⟨_, rfl⟩⟩⟩

theorem Div (a b : Int) (w : World) : Calls Try.prog 76 #[.int .u32 a, .int .u32 b] w fun e w' => e = .returned (.int .u32 (fdiv a.toNat b.toNat : Nat)) ∧ Drawn0 w w' := by
  have h := run_f32_div (P := Try.prog)
  rw [← tl_div a.toNat b.toNat w]
  go_enter Try.func76, Try.ntmps76
  go_wp2_with (first | (go_at_call 117; refine (of_any _ _).mono ?_; rintro e w' ⟨rfl, rfl⟩) | (go_at_call 116; refine (told_any _ _).mono ?_; rintro e w' ⟨rfl, rfl⟩))
  go_ret
  exact ⟨rfl, ⟨⟨_, rfl⟩⟩⟩

theorem Min (a b : Int) (w : World) : Calls Try.prog 82 #[.int .u32 a, .int .u32 b] w fun e w' => e = .returned (.int .u32 (fmin a.toNat b.toNat : Nat)) ∧ Drawn0 w w' := by
  have h := run_f32_min (P := Try.prog)
  rw [← tl_min a.toNat b.toNat w]
  go_enter Try.func82, Try.ntmps82
  go_wp2_with (first | (go_at_call 117; refine (of_any _ _).mono ?_; rintro e w' ⟨rfl, rfl⟩) | (go_at_call 116; refine (told_any _ _).mono ?_; rintro e w' ⟨rfl, rfl⟩))
  go_ret
  exact ⟨rfl, ⟨⟨_, rfl⟩⟩⟩

theorem Max (a b : Int) (w : World) : Calls Try.prog 84 #[.int .u32 a, .int .u32 b] w fun e w' => e = .returned (.int .u32 (fmax a.toNat b.toNat : Nat)) ∧ Drawn0 w w' := by
  have h := run_f32_max (P := Try.prog)
  rw [← tl_max a.toNat b.toNat w]
  go_enter Try.func84, Try.ntmps84
  go_wp2_with (first | (go_at_call 117; refine (of_any _ _).mono ?_; rintro e w' ⟨rfl, rfl⟩) | (go_at_call 116; refine (told_any _ _).mono ?_; rintro e w' ⟨rfl, rfl⟩))
  go_ret
  exact ⟨rfl, ⟨⟨_, rfl⟩⟩⟩

theorem Neg (a : Int) (w : World) : Calls Try.prog 101 #[.int .u32 a] w fun e w' => e = .returned (.int .u32 (fneg a.toNat : Nat)) ∧ w = w' := by
  have h := run_f32_neg (P := Try.prog)
  go_enter Try.func101, Try.ntmps101
  go_wp2_with (first | (go_at_call 117; refine (of_any _ _).mono ?_; rintro e w' ⟨rfl, rfl⟩) | (go_at_call 116; refine (told_any _ _).mono ?_; rintro e w' ⟨rfl, rfl⟩))
  go_ret
  exact ⟨rfl, rfl⟩
theorem Abs (a : Int) (w : World) : Calls Try.prog 102 #[.int .u32 a] w fun e w' => e = .returned (.int .u32 (tl (Go.bits .andNot .u32 a 2147483648).toNat : Nat)) ∧ w = w' := by
  go_enter Try.func102, Try.ntmps102
  go_wp2_with (first | (go_at_call 117; refine (of_any _ _).mono ?_; rintro e w' ⟨rfl, rfl⟩) | (go_at_call 116; refine (told_any _ _).mono ?_; rintro e w' ⟨rfl, rfl⟩))
  go_ret
  exact ⟨rfl, rfl⟩

theorem Less (a b : Int) (w : World) : Calls Try.prog 107 #[.int .u32 a, .int .u32 b] w fun e w' => e = .returned (.bool (flt a.toNat b.toNat)) ∧ w = w' := by
  go_enter Try.func107, Try.ntmps107
  go_wp2_with (first | (go_at_call 117; refine (of_any _ _).mono ?_; rintro e w' ⟨rfl, rfl⟩) | (go_at_call 116; refine (told_any _ _).mono ?_; rintro e w' ⟨rfl, rfl⟩))
  go_ret
  exact ⟨rfl, rfl⟩

theorem FromInt (n : Int) (w : World) : Calls Try.prog 77 #[.int .i64 n] w fun e w' => e = .returned (.int .u32 (tl (fint n) : Nat)) ∧ w = w' := by
  go_enter Try.func77, Try.ntmps77
  go_wp2_with (first | (go_at_call 117; refine (of_any _ _).mono ?_; rintro e w' ⟨rfl, rfl⟩) | (go_at_call 116; refine (told_any _ _).mono ?_; rintro e w' ⟨rfl, rfl⟩))
  go_ret
  exact ⟨rfl, rfl⟩

theorem Select (c a b : Int) (w : World) : Calls Try.prog 109 #[.int .u32 c, .int .u32 a, .int .u32 b] w fun e w' => e = .returned (.int .u32 (fsel c.toNat a.toNat b.toNat : Nat)) ∧ w = w' := by
  have hf : FloatKind.f32.format = Ieee.single := rfl
  cases h1 : (Ieee.single.order c.toNat 0 == some .lt) <;> cases h2 : (Ieee.single.order c.toNat 0 == some .gt) <;>
    (have h3 : fsel c.toNat a.toNat b.toNat = if fyes c.toNat then tl a.toNat else tl b.toNat := rfl
     simp only [fyes, flt, h1, h2, Bool.or_true, Bool.or_false, if_true, Bool.false_eq_true, if_false, Bool.or_self] at h3
     rw [h3]
     clear h3
     go_enter Try.func109, Try.ntmps109
     go_wp2_with (first | (go_at_call 117; refine (of_any _ _).mono ?_; rintro e w' ⟨rfl, rfl⟩) | (go_at_call 116; refine (told_any _ _).mono ?_; rintro e w' ⟨rfl, rfl⟩))
     go_ret
     exact ⟨rfl, rfl⟩)

theorem sqrt64_any (a : Nat) (w : World) : (callFunc 137 #[.float .f64 a]).run Try.prog w = .ok (.value (.float .f64 (fw (Ieee.double.sqrt a) (.nanBits .f64 a a) w))) (w.drewN (fn (Ieee.double.sqrt a))) := by
  rw [run_callFunc_extern (e := Extern.MathSqrt.sqrt) Try.func137 (by kernel_rfl) (by kernel_rfl) (by kernel_rfl) (by kernel_rfl), run_sqrt64]
  rfl
theorem mathSqrt_any (a : Nat) (w : World) : Calls Try.prog 118 #[.float .f64 a] w fun e w' => e = .returned (.float .f64 (fw (Ieee.double.sqrt a) (.nanBits .f64 a a) w)) ∧ w.drewN (fn (Ieee.double.sqrt a)) = w' := by
  have h := sqrt64_any
  go_enter Try.func118, Try.ntmps118
  go_wp2
  go_ret
  exact ⟨rfl, rfl⟩
theorem Sqrt (a : Int) (w : World) : Calls Try.prog 71 #[.int .u32 a] w fun e w' => e = .returned (.int .u32 (fsqrt a.toNat : Nat)) ∧ Drawn0 w w' := by
  have h := fun (w : World) (x : Nat) => run_up (P := Try.prog) w 123 125 x (by rw [Try.underlying123]; rfl) Try.underlying125
  obtain ⟨z, n, hd, hz⟩ := run_down (P := Try.prog) (w.drewN (fn (up? a.toNat) + fn (Ieee.double.sqrt (fw (up? a.toNat) (.nanConv .f64 a.toNat) w)))) 125 123 a.toNat w (w.drewN (fn (up? a.toNat))) (by rw [Try.underlying125]; rfl) Try.underlying123
  rw [← hz]
  clear hz
  go_enter Try.func71, Try.ntmps71
  go_wp2_with (first | (go_at_call 117; refine (of_any _ _).mono ?_; rintro e w' ⟨rfl, rfl⟩) | (go_at_call 116; refine (told_any _ _).mono ?_; rintro e w' ⟨rfl, rfl⟩) | (go_at_call 118; refine (mathSqrt_any _ _).mono ?_; rintro e w' ⟨rfl, rfl⟩))
  go_ret
  exact ⟨rfl, ⟨⟨_, rfl⟩⟩⟩
end Go.Proofs.Ytmfladkimmnccaa.Flo
