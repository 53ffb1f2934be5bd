/- The contracts of package float's functions. No condition. -/
import Derived.Test.YtcegmbplgghjnaaWal
import Derived.Test.YtcegmbplgghjnaaFpa
import Derived.Test.YtcegmbplgghjnaaFpb
import Derived.Test.YtcegmbplgghjnaaProg
namespace Go.Proofs.Ytcegmbplgghjnaa.Flo
open Go.RowKit Lathe Go.Proofs.YtcegmbplgghjnaaW.PrintWords

theorem frombits_any (a : Int) (w : World) : (callFunc 94 #[.int .u32 a]).run Try.prog w = .ok (.value (.float .f32 a.toNat)) w := by
  rw [run_callFunc_extern (e := Extern.MathFloatBits.float32frombits) Try.func94 (by kernel_rfl) (by kernel_rfl) (by kernel_rfl) (by kernel_rfl)]
  rfl
theorem bits_any (a : Nat) (w : World) : (callFunc 109 #[.float .f32 a]).run Try.prog w = .ok (.value (.int .u32 a)) w := by
  rw [run_callFunc_extern (e := Extern.MathFloatBits.float32bits) Try.func109 (by kernel_rfl) (by kernel_rfl) (by kernel_rfl) (by kernel_rfl)]
  rfl

theorem of_any (a : Int) (w : World) : Calls Try.prog 97 #[.int .u32 a] w fun e w' => e = .returned (.float .f32 a.toNat) ∧ w = w' := by
  have h := frombits_any
  go_enter Try.func97, Try.ntmps97
  go_wp2
  go_ret
  exact ⟨rfl, rfl⟩

theorem told_any (a : Nat) (w : World) : Calls Try.prog 96 #[.float .f32 a] w fun e w' => e = .returned (.int .u32 (tl a)) ∧ w = w' := by
  have h := bits_any
  have h2 : FloatKind.f32.format = Ieee.single := rfl
  by_cases h3 : Ieee.single.order a a = some .eq
  · have h4 : tl a = a := by simp [tl, h3]
    rw [h4]
    go_enter Try.func96, Try.ntmps96
    go_wp2
    go_ret
    exact ⟨rfl, rfl⟩
  · have h4 : tl a = 2143289344 := by simp [tl, h3]
    rw [h4]
    have h5 : (Ieee.single.order a a != some .eq) = true := by simp [h3]
    clear h3
    go_enter Try.func96, Try.ntmps96
    go_wp2
    go_ret
    exact ⟨rfl, rfl⟩

theorem Add (a b : Int) (w : World) : Calls Try.prog 53 #[.int .u32 a, .int .u32 b] w fun e w' => e = .returned (.int .u32 (fadd a.toNat b.toNat : Nat)) ∧ Drawn0 w w' := by
  have h := run_f32_add (P := Try.prog)
  rw [← tl_add a.toNat b.toNat w]
  go_enter Try.func53, Try.ntmps53
  go_wp2_with (first | (go_at_call 97; refine (of_any _ _).mono ?_; rintro e w' ⟨rfl, rfl⟩) | (go_at_call 96; refine (told_any _ _).mono ?_; rintro e w' ⟨rfl, rfl⟩))
  go_ret
  exact ⟨rfl, ⟨⟨_, rfl⟩⟩⟩

theorem Sub (a b : Int) (w : World) : Calls Try.prog 55 #[.int .u32 a, .int .u32 b] w fun e w' => e = .returned (.int .u32 (fsub a.toNat b.toNat : Nat)) ∧ Drawn0 w w' := by
  have h := run_f32_sub (P := Try.prog)
  rw [← tl_sub a.toNat b.toNat w]
  go_enter Try.func55, Try.ntmps55
  go_wp2_with (first | (go_at_call 97; refine (of_any _ _).mono ?_; rintro e w' ⟨rfl, rfl⟩) | (go_at_call 96; refine (told_any _ _).mono ?_; rintro e w' ⟨rfl, rfl⟩))
  go_ret
  exact ⟨rfl, ⟨⟨_, rfl⟩⟩⟩

theorem Mul (a b : Int) (w : World) : Calls Try.prog 48 #[.int .u32 a, .int .u32 b] w fun e w' => e = .returned (.int .u32 (fmul a.toNat b.toNat : Nat)) ∧ Drawn0 w w' := by
  have h := run_f32_mul (P := Try.prog)
  rw [← tl_mul a.toNat b.toNat w]
  go_enter Try.func48, Try.ntmps48
  go_wp2_with (first | (go_at_call 97; refine (of_any _ _).mono ?_; rintro e w' ⟨rfl, rfl⟩) | (go_at_call 96; refine (told_any _ _).mono ?_; rintro e w' ⟨rfl, rfl⟩))
  go_ret
  exact ⟨rfl, ⟨⟨_, rfl⟩⟩⟩

theorem Div (a b : Int) (w : World) : Calls Try.prog 51 #[.int .u32 a, .int .u32 b] w fun e w' => e = .returned (.int .u32 (fdiv a.toNat b.toNat : Nat)) ∧ Drawn0 w w' := by
  have h := run_f32_div (P := Try.prog)
  rw [← tl_div a.toNat b.toNat w]
  go_enter Try.func51, Try.ntmps51
  go_wp2_with (first | (go_at_call 97; refine (of_any _ _).mono ?_; rintro e w' ⟨rfl, rfl⟩) | (go_at_call 96; refine (told_any _ _).mono ?_; rintro e w' ⟨rfl, rfl⟩))
  go_ret
  exact ⟨rfl, ⟨⟨_, rfl⟩⟩⟩

theorem Min (a b : Int) (w : World) : Calls Try.prog 72 #[.int .u32 a, .int .u32 b] w fun e w' => e = .returned (.int .u32 (fmin a.toNat b.toNat : Nat)) ∧ Drawn0 w w' := by
  have h := run_f32_min (P := Try.prog)
  rw [← tl_min a.toNat b.toNat w]
  go_enter Try.func72, Try.ntmps72
  go_wp2_with (first | (go_at_call 97; refine (of_any _ _).mono ?_; rintro e w' ⟨rfl, rfl⟩) | (go_at_call 96; refine (told_any _ _).mono ?_; rintro e w' ⟨rfl, rfl⟩))
  go_ret
  exact ⟨rfl, ⟨⟨_, rfl⟩⟩⟩

theorem Max (a b : Int) (w : World) : Calls Try.prog 73 #[.int .u32 a, .int .u32 b] w fun e w' => e = .returned (.int .u32 (fmax a.toNat b.toNat : Nat)) ∧ Drawn0 w w' := by
  have h := run_f32_max (P := Try.prog)
  rw [← tl_max a.toNat b.toNat w]
  go_enter Try.func73, Try.ntmps73
  go_wp2_with (first | (go_at_call 97; refine (of_any _ _).mono ?_; rintro e w' ⟨rfl, rfl⟩) | (go_at_call 96; refine (told_any _ _).mono ?_; rintro e w' ⟨rfl, rfl⟩))
  go_ret
  exact ⟨rfl, ⟨⟨_, rfl⟩⟩⟩

theorem Neg (a : Int) (w : World) : Calls Try.prog 62 #[.int .u32 a] w fun e w' => e = .returned (.int .u32 (fneg a.toNat : Nat)) ∧ w = w' := by
  have h := run_f32_neg (P := Try.prog)
  go_enter Try.func62, Try.ntmps62
  go_wp2_with (first | (go_at_call 97; refine (of_any _ _).mono ?_; rintro e w' ⟨rfl, rfl⟩) | (go_at_call 96; refine (told_any _ _).mono ?_; rintro e w' ⟨rfl, rfl⟩))
  go_ret
  exact ⟨rfl, rfl⟩
theorem Abs (a : Int) (w : World) : Calls Try.prog 64 #[.int .u32 a] w fun e w' => e = .returned (.int .u32 (tl (Go.bits .andNot .u32 a 2147483648).toNat : Nat)) ∧ w = w' := by
  go_enter Try.func64, Try.ntmps64
  go_wp2_with (first | (go_at_call 97; refine (of_any _ _).mono ?_; rintro e w' ⟨rfl, rfl⟩) | (go_at_call 96; refine (told_any _ _).mono ?_; rintro e w' ⟨rfl, rfl⟩))
  go_ret
  exact ⟨rfl, rfl⟩

theorem Less (a b : Int) (w : World) : Calls Try.prog 67 #[.int .u32 a, .int .u32 b] w fun e w' => e = .returned (.bool (flt a.toNat b.toNat)) ∧ w = w' := by
  go_enter Try.func67, Try.ntmps67
  go_wp2_with (first | (go_at_call 97; refine (of_any _ _).mono ?_; rintro e w' ⟨rfl, rfl⟩) | (go_at_call 96; refine (told_any _ _).mono ?_; rintro e w' ⟨rfl, rfl⟩))
  go_ret
  exact ⟨rfl, rfl⟩

theorem Equal (a b : Int) (w : World) : Calls Try.prog 74 #[.int .u32 a, .int .u32 b] w fun e w' => e = .returned (.bool (feq a.toNat b.toNat)) ∧ w = w' := by
  go_enter Try.func74, Try.ntmps74
  go_wp2_with (first | (go_at_call 97; refine (of_any _ _).mono ?_; rintro e w' ⟨rfl, rfl⟩) | (go_at_call 96; refine (told_any _ _).mono ?_; rintro e w' ⟨rfl, rfl⟩))
  go_ret
  exact ⟨rfl, rfl⟩

theorem FromInt (n : Int) (w : World) : Calls Try.prog 69 #[.int .i64 n] w fun e w' => e = .returned (.int .u32 (tl (fint n) : Nat)) ∧ w = w' := by
  go_enter Try.func69, Try.ntmps69
  go_wp2_with (first | (go_at_call 97; refine (of_any _ _).mono ?_; rintro e w' ⟨rfl, rfl⟩) | (go_at_call 96; refine (told_any _ _).mono ?_; rintro e w' ⟨rfl, rfl⟩))
  go_ret
  exact ⟨rfl, rfl⟩

theorem Select (c a b : Int) (w : World) : Calls Try.prog 80 #[.int .u32 c, .int .u32 a, .int .u32 b] w fun e w' => e = .returned (.int .u32 (fsel c.toNat a.toNat b.toNat : Nat)) ∧ w = w' := by
  have hf : FloatKind.f32.format = Ieee.single := rfl
  cases h1 : (Ieee.single.order c.toNat 0 == some .lt) <;> cases h2 : (Ieee.single.order c.toNat 0 == some .gt) <;>
    (have h3 : fsel c.toNat a.toNat b.toNat = if fyes c.toNat then tl a.toNat else tl b.toNat := rfl
     simp only [fyes, flt, h1, h2, Bool.or_true, Bool.or_false, if_true, Bool.false_eq_true, if_false, Bool.or_self] at h3
     rw [h3]
     clear h3
     go_enter Try.func80, Try.ntmps80
     go_wp2_with (first | (go_at_call 97; refine (of_any _ _).mono ?_; rintro e w' ⟨rfl, rfl⟩) | (go_at_call 96; refine (told_any _ _).mono ?_; rintro e w' ⟨rfl, rfl⟩))
     go_ret
     exact ⟨rfl, rfl⟩)

theorem sqrt64_any (a : Nat) (w : World) : (callFunc 114 #[.float .f64 a]).run Try.prog w = .ok (.value (.float .f64 (fw (Ieee.double.sqrt a) (.nanBits .f64 a a) w))) (w.drewN (fn (Ieee.double.sqrt a))) := by
  rw [run_callFunc_extern (e := Extern.MathSqrt.sqrt) Try.func114 (by kernel_rfl) (by kernel_rfl) (by kernel_rfl) (by kernel_rfl), run_sqrt64]
  rfl
theorem mathSqrt_any (a : Nat) (w : World) : Calls Try.prog 104 #[.float .f64 a] w fun e w' => e = .returned (.float .f64 (fw (Ieee.double.sqrt a) (.nanBits .f64 a a) w)) ∧ w.drewN (fn (Ieee.double.sqrt a)) = w' := by
  have h := sqrt64_any
  go_enter Try.func104, Try.ntmps104
  go_wp2
  go_ret
  exact ⟨rfl, rfl⟩
theorem Sqrt (a : Int) (w : World) : Calls Try.prog 60 #[.int .u32 a] w fun e w' => e = .returned (.int .u32 (fsqrt a.toNat : Nat)) ∧ Drawn0 w w' := by
  have h := fun (w : World) (x : Nat) => run_up (P := Try.prog) w 79 92 x (by rw [Try.underlying79]; rfl) Try.underlying92
  obtain ⟨z, n, hd, hz⟩ := run_down (P := Try.prog) (w.drewN (fn (up? a.toNat) + fn (Ieee.double.sqrt (fw (up? a.toNat) (.nanConv .f64 a.toNat) w)))) 92 79 a.toNat w (w.drewN (fn (up? a.toNat))) (by rw [Try.underlying92]; rfl) Try.underlying79
  rw [← hz]
  clear hz
  go_enter Try.func60, Try.ntmps60
  go_wp2_with (first | (go_at_call 97; refine (of_any _ _).mono ?_; rintro e w' ⟨rfl, rfl⟩) | (go_at_call 96; refine (told_any _ _).mono ?_; rintro e w' ⟨rfl, rfl⟩) | (go_at_call 104; refine (mathSqrt_any _ _).mono ?_; rintro e w' ⟨rfl, rfl⟩))
  go_ret
  exact ⟨rfl, ⟨⟨_, rfl⟩⟩⟩
end Go.Proofs.Ytcegmbplgghjnaa.Flo
