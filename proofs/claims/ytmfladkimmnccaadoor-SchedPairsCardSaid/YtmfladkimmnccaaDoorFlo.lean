/- The contracts of package float's functions. No condition. -/
import Derived.Test.YtmfladkimmnccaaDoorWal
import Derived.Test.YtmfladkimmnccaaDoorFpa
import Derived.Test.YtmfladkimmnccaaDoorFpb
import Derived.Test.YtmfladkimmnccaaDoorProg
namespace Go.Proofs.YtmfladkimmnccaaDoor.Flo
open Go.RowKit Lathe Go.Proofs.YtmfladkimmnccaaDoorW.PrintWords

theorem frombits_any (a : Int) (w : World) : (callFunc 88 #[.int .u32 a]).run Tryd.prog w = .ok (.value (.float .f32 a.toNat)) w := by
  rw [run_callFunc_extern (e := Extern.MathFloatBits.float32frombits) Tryd.func88 (by kernel_rfl) (by kernel_rfl) (by kernel_rfl) (by kernel_rfl)]
  rfl
theorem bits_any (a : Nat) (w : World) : (callFunc 87 #[.float .f32 a]).run Tryd.prog w = .ok (.value (.int .u32 a)) w := by
  rw [run_callFunc_extern (e := Extern.MathFloatBits.float32bits) Tryd.func87 (by kernel_rfl) (by kernel_rfl) (by kernel_rfl) (by kernel_rfl)]
  rfl

theorem of_any (a : Int) (w : World) : Calls Tryd.prog 70 #[.int .u32 a] w fun e w' => e = .returned (.float .f32 a.toNat) ∧ w = w' := by
  have h := frombits_any
  go_enter Tryd.func70, Tryd.ntmps70
  go_wp2
  go_ret
  exact ⟨rfl, rfl⟩

theorem told_any (a : Nat) (w : World) : Calls Tryd.prog 69 #[.float .f32 a] w fun e w' => e = .returned (.int .u32 (tl a)) ∧ w = w' := by
  have h := bits_any
  have h2 : FloatKind.f32.format = Ieee.single := rfl
  by_cases h3 : Ieee.single.order a a = some .eq
  · have h4 : tl a = a := by simp [tl, h3]
    rw [h4]
    go_enter Tryd.func69, Tryd.ntmps69
    go_wp2
    go_ret
    exact ⟨rfl, rfl⟩
  · have h4 : tl a = 2143289344 := by simp [tl, h3]
    rw [h4]
    have h5 : (Ieee.single.order a a != some .eq) = true := by simp [h3]
    clear h3
    go_enter Tryd.func69, Tryd.ntmps69
    go_wp2
    go_ret
    exact ⟨rfl, rfl⟩

theorem Add (a b : Int) (w : World) : Calls Tryd.prog 41 #[.int .u32 a, .int .u32 b] w fun e w' => e = .returned (.int .u32 (fadd a.toNat b.toNat : Nat)) ∧ Drawn0 w w' := by
  have h := run_f32_add (P := Tryd.prog)
  rw [← tl_add a.toNat b.toNat w]
  go_enter Tryd.func41, Tryd.ntmps41
  go_wp2_with (first | (go_at_call 70; refine (of_any _ _).mono ?_; rintro e w' ⟨rfl, rfl⟩) | (go_at_call 69; refine (told_any _ _).mono ?_; rintro e w' ⟨rfl, rfl⟩))
  go_ret
  exact ⟨rfl, ⟨⟨_, rfl⟩⟩⟩

theorem Sub (a b : Int) (w : World) : Calls Tryd.prog 39 #[.int .u32 a, .int .u32 b] w fun e w' => e = .returned (.int .u32 (fsub a.toNat b.toNat : Nat)) ∧ Drawn0 w w' := by
  have h := run_f32_sub (P := Tryd.prog)
  rw [← tl_sub a.toNat b.toNat w]
  go_enter Tryd.func39, Tryd.ntmps39
  go_wp2_with (first | (go_at_call 70; refine (of_any _ _).mono ?_; rintro e w' ⟨rfl, rfl⟩) | (go_at_call 69; refine (told_any _ _).mono ?_; rintro e w' ⟨rfl, rfl⟩))
  go_ret
  exact ⟨rfl, ⟨⟨_, rfl⟩⟩⟩

theorem Mul (a b : Int) (w : World) : Calls Tryd.prog 40 #[.int .u32 a, .int .u32 b] w fun e w' => e = .returned (.int .u32 (fmul a.toNat b.toNat : Nat)) ∧ Drawn0 w w' := by
  have h := run_f32_mul (P := Tryd.prog)
  rw [← tl_mul a.toNat b.toNat w]
  go_enter Tryd.func40, Tryd.ntmps40
  go_wp2_with (first | (go_at_call 70; refine (of_any _ _).mono ?_; rintro e w' ⟨rfl, rfl⟩) | (go_at_call 69; refine (told_any _ _).mono ?_; rintro e w' ⟨rfl, rfl⟩))
  go_ret
  exact ⟨rfl, ⟨⟨_, rfl⟩⟩⟩

theorem Div (a b : Int) (w : World) : Calls Tryd.prog 74 #[.int .u32 a, .int .u32 b] w fun e w' => e = .returned (.int .u32 (fdiv a.toNat b.toNat : Nat)) ∧ Drawn0 w w' := by
  have h := run_f32_div (P := Tryd.prog)
  rw [← tl_div a.toNat b.toNat w]
  go_enter Tryd.func74, Tryd.ntmps74
  go_wp2_with (first | (go_at_call 70; refine (of_any _ _).mono ?_; rintro e w' ⟨rfl, rfl⟩) | (go_at_call 69; refine (told_any _ _).mono ?_; rintro e w' ⟨rfl, rfl⟩))
  go_ret
  exact ⟨rfl, ⟨⟨_, rfl⟩⟩⟩

theorem Min (a b : Int) (w : World) : Calls Tryd.prog 36 #[.int .u32 a, .int .u32 b] w fun e w' => e = .returned (.int .u32 (fmin a.toNat b.toNat : Nat)) ∧ Drawn0 w w' := by
  have h := run_f32_min (P := Tryd.prog)
  rw [← tl_min a.toNat b.toNat w]
  go_enter Tryd.func36, Tryd.ntmps36
  go_wp2_with (first | (go_at_call 70; refine (of_any _ _).mono ?_; rintro e w' ⟨rfl, rfl⟩) | (go_at_call 69; refine (told_any _ _).mono ?_; rintro e w' ⟨rfl, rfl⟩))
  go_ret
  exact ⟨rfl, ⟨⟨_, rfl⟩⟩⟩

theorem Max (a b : Int) (w : World) : Calls Tryd.prog 37 #[.int .u32 a, .int .u32 b] w fun e w' => e = .returned (.int .u32 (fmax a.toNat b.toNat : Nat)) ∧ Drawn0 w w' := by
  have h := run_f32_max (P := Tryd.prog)
  rw [← tl_max a.toNat b.toNat w]
  go_enter Tryd.func37, Tryd.ntmps37
  go_wp2_with (first | (go_at_call 70; refine (of_any _ _).mono ?_; rintro e w' ⟨rfl, rfl⟩) | (go_at_call 69; refine (told_any _ _).mono ?_; rintro e w' ⟨rfl, rfl⟩))
  go_ret
  exact ⟨rfl, ⟨⟨_, rfl⟩⟩⟩

theorem Neg (a : Int) (w : World) : Calls Tryd.prog 42 #[.int .u32 a] w fun e w' => e = .returned (.int .u32 (fneg a.toNat : Nat)) ∧ w = w' := by
  have h := run_f32_neg (P := Tryd.prog)
  go_enter Tryd.func42, Tryd.ntmps42
  go_wp2_with (first | (go_at_call 70; refine (of_any _ _).mono ?_; rintro e w' ⟨rfl, rfl⟩) | (go_at_call 69; refine (told_any _ _).mono ?_; rintro e w' ⟨rfl, rfl⟩))
  go_ret
  exact ⟨rfl, rfl⟩
theorem Less (a b : Int) (w : World) : Calls Tryd.prog 38 #[.int .u32 a, .int .u32 b] w fun e w' => e = .returned (.bool (flt a.toNat b.toNat)) ∧ w = w' := by
  go_enter Tryd.func38, Tryd.ntmps38
  go_wp2_with (first | (go_at_call 70; refine (of_any _ _).mono ?_; rintro e w' ⟨rfl, rfl⟩) | (go_at_call 69; refine (told_any _ _).mono ?_; rintro e w' ⟨rfl, rfl⟩))
  go_ret
  exact ⟨rfl, rfl⟩

theorem FromInt (n : Int) (w : World) : Calls Tryd.prog 75 #[.int .i64 n] w fun e w' => e = .returned (.int .u32 (tl (fint n) : Nat)) ∧ w = w' := by
  go_enter Tryd.func75, Tryd.ntmps75
  go_wp2_with (first | (go_at_call 70; refine (of_any _ _).mono ?_; rintro e w' ⟨rfl, rfl⟩) | (go_at_call 69; refine (told_any _ _).mono ?_; rintro e w' ⟨rfl, rfl⟩))
  go_ret
  exact ⟨rfl, rfl⟩

theorem Select (c a b : Int) (w : World) : Calls Tryd.prog 57 #[.int .u32 c, .int .u32 a, .int .u32 b] w fun e w' => e = .returned (.int .u32 (fsel c.toNat a.toNat b.toNat : Nat)) ∧ w = w' := by
  have hf : FloatKind.f32.format = Ieee.single := rfl
  cases h1 : (Ieee.single.order c.toNat 0 == some .lt) <;> cases h2 : (Ieee.single.order c.toNat 0 == some .gt) <;>
    (have h3 : fsel c.toNat a.toNat b.toNat = if fyes c.toNat then tl a.toNat else tl b.toNat := rfl
     simp only [fyes, flt, h1, h2, Bool.or_true, Bool.or_false, if_true, Bool.false_eq_true, if_false, Bool.or_self] at h3
     rw [h3]
     clear h3
     go_enter Tryd.func57, Tryd.ntmps57
     go_wp2_with (first | (go_at_call 70; refine (of_any _ _).mono ?_; rintro e w' ⟨rfl, rfl⟩) | (go_at_call 69; refine (told_any _ _).mono ?_; rintro e w' ⟨rfl, rfl⟩))
     go_ret
     exact ⟨rfl, rfl⟩)

theorem sqrt64_any (a : Nat) (w : World) : (callFunc 91 #[.float .f64 a]).run Tryd.prog w = .ok (.value (.float .f64 (fw (Ieee.double.sqrt a) (.nanBits .f64 a a) w))) (w.drewN (fn (Ieee.double.sqrt a))) := by
  rw [run_callFunc_extern (e := Extern.MathSqrt.sqrt) Tryd.func91 (by kernel_rfl) (by kernel_rfl) (by kernel_rfl) (by kernel_rfl), run_sqrt64]
  rfl
theorem mathSqrt_any (a : Nat) (w : World) : Calls Tryd.prog 77 #[.float .f64 a] w fun e w' => e = .returned (.float .f64 (fw (Ieee.double.sqrt a) (.nanBits .f64 a a) w)) ∧ w.drewN (fn (Ieee.double.sqrt a)) = w' := by
  have h := sqrt64_any
  go_enter Tryd.func77, Tryd.ntmps77
  go_wp2
  go_ret
  exact ⟨rfl, rfl⟩
theorem Sqrt (a : Int) (w : World) : Calls Tryd.prog 56 #[.int .u32 a] w fun e w' => e = .returned (.int .u32 (fsqrt a.toNat : Nat)) ∧ Drawn0 w w' := by
  have h := fun (w : World) (x : Nat) => run_up (P := Tryd.prog) w 73 81 x (by rw [Tryd.underlying73]; rfl) Tryd.underlying81
  obtain ⟨z, n, hd, hz⟩ := run_down (P := Tryd.prog) (w.drewN (fn (up? a.toNat) + fn (Ieee.double.sqrt (fw (up? a.toNat) (.nanConv .f64 a.toNat) w)))) 81 73 a.toNat w (w.drewN (fn (up? a.toNat))) (by rw [Tryd.underlying81]; rfl) Tryd.underlying73
  rw [← hz]
  clear hz
  go_enter Tryd.func56, Tryd.ntmps56
  go_wp2_with (first | (go_at_call 70; refine (of_any _ _).mono ?_; rintro e w' ⟨rfl, rfl⟩) | (go_at_call 69; refine (told_any _ _).mono ?_; rintro e w' ⟨rfl, rfl⟩) | (go_at_call 77; refine (mathSqrt_any _ _).mono ?_; rintro e w' ⟨rfl, rfl⟩))
  go_ret
  exact ⟨rfl, ⟨⟨_, rfl⟩⟩⟩
end Go.Proofs.YtmfladkimmnccaaDoor.Flo
