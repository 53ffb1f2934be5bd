/-
  DERIVED: THE SHELF's CONTRACTS AT THIS DUMP, IN PLAIN WORDS (tools/lay-plain.mjs out of 'TrydShelf.lean', which tools/lay-shelf.mjs wrote): THE SAME DECLARATIONS UNDER THE SAME NAMES: 'import', 'namespace', 'open', 'def', 'theorem' AND NOTHING ELSE: no command of the shelf's: FOR A HAND-IN. Each laying: the table of numbers ('.._ren') and one theorem, a field a fact of the dump's own or the kernel's comparison; each contract: ONE APPLICATION.
-/
import Derived.Shelf.Small.Bits
import Derived.Shelf.Strconv.Itoa0
import Derived.Test.YtmfladkimmnccaaDoorProg
import Derived.Test.YtmfladkimmnccaaDoorWal
import Derived.Test.YtmfladkimmnccaaDoorFpa
import Derived.Test.YtmfladkimmnccaaDoorFpb
import Derived.Test.YtmfladkimmnccaaDoorFpc
import Derived.Laws.BitsLemmas
import Derived.LoopTactic
namespace Go.Proofs
open Go.Shelf
def Tryd.lays128_ren : Go.Shelf.Ren := ⟨fun | 128 => 89 | n => n, fun | 51 => 30 | 3 => 3 | 4 => 4 | 46 => 75 | 5 => 5 | 9 => 9 | n => n, fun | n => n⟩
theorem Tryd.lays128 : Go.Proofs.Lays.n128 Tryd.prog Tryd.lays128_ren := {
  mixed := by kernel_rfl
  f128 := Tryd.func89.trans (congrArg some (by kernel_rfl))
  t3 := Tryd.underlying3
  a3 := Tryd.isAgg3
  z3 := Tryd.sizeOf3
  v3 := Tryd.zeroValue3
  t4 := Tryd.underlying4
  a4 := Tryd.isAgg4
  z4 := Tryd.sizeOf4
  v4 := Tryd.zeroValue4
  t5 := Tryd.underlying5
  a5 := Tryd.isAgg5
  z5 := Tryd.sizeOf5
  v5 := Tryd.zeroValue5
  t9 := Tryd.underlying9
  a9 := Tryd.isAgg9
  z9 := Tryd.sizeOf9
  v9 := Tryd.zeroValue9
  t46 := Tryd.underlying75
  a46 := Tryd.isAgg75
  z46 := Tryd.sizeOf75
  v46 := Tryd.zeroValue75
  t51 := Tryd.underlying30
  a51 := Tryd.isAgg30
  z51 := Tryd.sizeOf30
  v51 := Tryd.zeroValue30 }
/-- bits.Len32: "Len32 returns the minimum number of bits required to represent x; the result is 0 for x == 0.": IT RETURNS 'Lib.bitLen x'; the world is as it was. ('h0', 'h1': x is a uint32.) (LAID: no walk: one application.) -/
theorem Tryd.bits_Len32 (x : Int) (w : World) (h0 : 0 ≤ x) (h1 : x ≤ 4294967295) :
    Calls Tryd.prog 89 #[.int .u32 x] w fun e w' => e = .returned (.int .i64 (Lib.bitLen x.toNat)) ∧ w' = w := Any.bits_Len32 Tryd.lays128 x w h0 h1
def Tryd.lays125_ren : Go.Shelf.Ren := ⟨fun | 125 => 76 | 128 => 89 | 129 => 90 | n => n, fun | 46 => 75 | 3 => 3 | 51 => 30 | 53 => 60 | 4 => 4 | 5 => 5 | 9 => 9 | n => n, fun | n => n⟩
theorem Tryd.lays125 : Go.Proofs.Lays.n125 Tryd.prog Tryd.lays125_ren := {
  mixed := by kernel_rfl
  f125 := Tryd.func76.trans (congrArg some (by kernel_rfl))
  f128 := Tryd.func89.trans (congrArg some (by kernel_rfl))
  f129 := Tryd.func90.trans (congrArg some (by kernel_rfl))
  t3 := Tryd.underlying3
  a3 := Tryd.isAgg3
  z3 := Tryd.sizeOf3
  v3 := Tryd.zeroValue3
  t4 := Tryd.underlying4
  a4 := Tryd.isAgg4
  z4 := Tryd.sizeOf4
  v4 := Tryd.zeroValue4
  t5 := Tryd.underlying5
  a5 := Tryd.isAgg5
  z5 := Tryd.sizeOf5
  v5 := Tryd.zeroValue5
  t9 := Tryd.underlying9
  a9 := Tryd.isAgg9
  z9 := Tryd.sizeOf9
  v9 := Tryd.zeroValue9
  t46 := Tryd.underlying75
  a46 := Tryd.isAgg75
  z46 := Tryd.sizeOf75
  v46 := Tryd.zeroValue75
  t51 := Tryd.underlying30
  a51 := Tryd.isAgg30
  z51 := Tryd.sizeOf30
  v51 := Tryd.zeroValue30
  t53 := Tryd.underlying60
  a53 := Tryd.isAgg60
  z53 := Tryd.sizeOf60
  v53 := Tryd.zeroValue60 }
/-- bits.Len: "Len returns the minimum number of bits required to represent x; the result is 0 for x == 0.": IT RETURNS 'Lib.bitLen x'; the world is as it was. (A uint has 64 bits in the model.) ITS CALLEE bits.Len64 IS MET BY ITS OWN CONTRACT OFF THE SHELF (lay that first). (LAID: no walk: one application.) -/
theorem Tryd.bits_Len (x : Int) (w : World) (h0 : 0 ≤ x) (h1 : x ≤ 18446744073709551615) :
    Calls Tryd.prog 76 #[.int .u64 x] w fun e w' => e = .returned (.int .i64 (Lib.bitLen x.toNat)) ∧ w' = w := Any.bits_Len Tryd.lays125 x w h0 h1
def Tryd.lays129_ren : Go.Shelf.Ren := ⟨fun | 129 => 90 | n => n, fun | 53 => 60 | 3 => 3 | 4 => 4 | 46 => 75 | 5 => 5 | 9 => 9 | n => n, fun | n => n⟩
theorem Tryd.lays129 : Go.Proofs.Lays.n129 Tryd.prog Tryd.lays129_ren := {
  mixed := by kernel_rfl
  f129 := Tryd.func90.trans (congrArg some (by kernel_rfl))
  t3 := Tryd.underlying3
  a3 := Tryd.isAgg3
  z3 := Tryd.sizeOf3
  v3 := Tryd.zeroValue3
  t4 := Tryd.underlying4
  a4 := Tryd.isAgg4
  z4 := Tryd.sizeOf4
  v4 := Tryd.zeroValue4
  t5 := Tryd.underlying5
  a5 := Tryd.isAgg5
  z5 := Tryd.sizeOf5
  v5 := Tryd.zeroValue5
  t9 := Tryd.underlying9
  a9 := Tryd.isAgg9
  z9 := Tryd.sizeOf9
  v9 := Tryd.zeroValue9
  t46 := Tryd.underlying75
  a46 := Tryd.isAgg75
  z46 := Tryd.sizeOf75
  v46 := Tryd.zeroValue75
  t53 := Tryd.underlying60
  a53 := Tryd.isAgg60
  z53 := Tryd.sizeOf60
  v53 := Tryd.zeroValue60 }
/-- bits.Len64: "Len64 returns the minimum number of bits required to represent x; the result is 0 for x == 0.": IT RETURNS 'Lib.bitLen x'; the world is as it was. ('h0', 'h1': x is a uint64.) (LAID: no walk: one application.) -/
theorem Tryd.bits_Len64 (x : Int) (w : World) (h0 : 0 ≤ x) (h1 : x ≤ 18446744073709551615) :
    Calls Tryd.prog 90 #[.int .u64 x] w fun e w' => e = .returned (.int .i64 (Lib.bitLen x.toNat)) ∧ w' = w := Any.bits_Len64 Tryd.lays129 x w h0 h1
end Go.Proofs
namespace Go.Proofs.YtmfladkimmnccaaDoor.Flo
open Go.RowKit Lathe Go.Proofs.YtmfladkimmnccaaDoorW.PrintWords

theorem frombits_any (a : Int) (w : World) : (callFunc 88 #[.int .u32 a]).run Tryd.prog w = .ok (.value (.float .f32 a.toNat)) w := by
  rw [run_callFunc_extern (e := Extern.MathFloatBits.float32frombits) Tryd.func88 (by kernel_rfl) (by kernel_rfl) (by kernel_rfl) (by kernel_rfl)]
  rfl
theorem bits_any (a : Nat) (w : World) : (callFunc 87 #[.float .f32 a]).run Tryd.prog w = .ok (.value (.int .u32 a)) w := by
  rw [run_callFunc_extern (e := Extern.MathFloatBits.float32bits) Tryd.func87 (by kernel_rfl) (by kernel_rfl) (by kernel_rfl) (by kernel_rfl)]
  rfl

theorem of_any (a : Int) (w : World) : Calls Tryd.prog 70 #[.int .u32 a] w fun e w' => e = .returned (.float .f32 a.toNat) ∧ w = w' := by
  have h := frombits_any
  go_enter Tryd.func70, Tryd.ntmps70
  go_wp2
  go_ret
  exact ⟨rfl, rfl⟩

theorem told_any (a : Nat) (w : World) : Calls Tryd.prog 69 #[.float .f32 a] w fun e w' => e = .returned (.int .u32 (tl a)) ∧ w = w' := by
  have h := bits_any
  have h2 : FloatKind.f32.format = Ieee.single := rfl
  by_cases h3 : Ieee.single.order a a = some .eq
  · have h4 : tl a = a := by simp [tl, h3]
    rw [h4]
    go_enter Tryd.func69, Tryd.ntmps69
    go_wp2
    go_ret
    exact ⟨rfl, rfl⟩
  · have h4 : tl a = 2143289344 := by simp [tl, h3]
    rw [h4]
    have h5 : (Ieee.single.order a a != some .eq) = true := by simp [h3]
    clear h3
    go_enter Tryd.func69, Tryd.ntmps69
    go_wp2
    go_ret
    exact ⟨rfl, rfl⟩

theorem Add (a b : Int) (w : World) : Calls Tryd.prog 41 #[.int .u32 a, .int .u32 b] w fun e w' => e = .returned (.int .u32 (fadd a.toNat b.toNat : Nat)) ∧ Drawn0 w w' := by
  have h := run_f32_add (P := Tryd.prog)
  rw [← tl_add a.toNat b.toNat w]
  go_enter Tryd.func41, Tryd.ntmps41
  go_wp2_with (first | (go_at_call 70; refine (of_any _ _).mono ?_; rintro e w' ⟨rfl, rfl⟩) | (go_at_call 69; refine (told_any _ _).mono ?_; rintro e w' ⟨rfl, rfl⟩))
  go_ret
  exact ⟨rfl, ⟨⟨_, rfl⟩⟩⟩

theorem Sub (a b : Int) (w : World) : Calls Tryd.prog 39 #[.int .u32 a, .int .u32 b] w fun e w' => e = .returned (.int .u32 (fsub a.toNat b.toNat : Nat)) ∧ Drawn0 w w' := by
  have h := run_f32_sub (P := Tryd.prog)
  rw [← tl_sub a.toNat b.toNat w]
  go_enter Tryd.func39, Tryd.ntmps39
  go_wp2_with (first | (go_at_call 70; refine (of_any _ _).mono ?_; rintro e w' ⟨rfl, rfl⟩) | (go_at_call 69; refine (told_any _ _).mono ?_; rintro e w' ⟨rfl, rfl⟩))
  go_ret
  exact ⟨rfl, ⟨⟨_, rfl⟩⟩⟩

theorem Mul (a b : Int) (w : World) : Calls Tryd.prog 40 #[.int .u32 a, .int .u32 b] w fun e w' => e = .returned (.int .u32 (fmul a.toNat b.toNat : Nat)) ∧ Drawn0 w w' := by
  have h := run_f32_mul (P := Tryd.prog)
  rw [← tl_mul a.toNat b.toNat w]
  go_enter Tryd.func40, Tryd.ntmps40
  go_wp2_with (first | (go_at_call 70; refine (of_any _ _).mono ?_; rintro e w' ⟨rfl, rfl⟩) | (go_at_call 69; refine (told_any _ _).mono ?_; rintro e w' ⟨rfl, rfl⟩))
  go_ret
  exact ⟨rfl, ⟨⟨_, rfl⟩⟩⟩

theorem Div (a b : Int) (w : World) : Calls Tryd.prog 74 #[.int .u32 a, .int .u32 b] w fun e w' => e = .returned (.int .u32 (fdiv a.toNat b.toNat : Nat)) ∧ Drawn0 w w' := by
  have h := run_f32_div (P := Tryd.prog)
  rw [← tl_div a.toNat b.toNat w]
  go_enter Tryd.func74, Tryd.ntmps74
  go_wp2_with (first | (go_at_call 70; refine (of_any _ _).mono ?_; rintro e w' ⟨rfl, rfl⟩) | (go_at_call 69; refine (told_any _ _).mono ?_; rintro e w' ⟨rfl, rfl⟩))
  go_ret
  exact ⟨rfl, ⟨⟨_, rfl⟩⟩⟩

theorem Min (a b : Int) (w : World) : Calls Tryd.prog 36 #[.int .u32 a, .int .u32 b] w fun e w' => e = .returned (.int .u32 (fmin a.toNat b.toNat : Nat)) ∧ Drawn0 w w' := by
  have h := run_f32_min (P := Tryd.prog)
  rw [← tl_min a.toNat b.toNat w]
  go_enter Tryd.func36, Tryd.ntmps36
  go_wp2_with (first | (go_at_call 70; refine (of_any _ _).mono ?_; rintro e w' ⟨rfl, rfl⟩) | (go_at_call 69; refine (told_any _ _).mono ?_; rintro e w' ⟨rfl, rfl⟩))
  go_ret
  exact ⟨rfl, ⟨⟨_, rfl⟩⟩⟩

theorem Max (a b : Int) (w : World) : Calls Tryd.prog 37 #[.int .u32 a, .int .u32 b] w fun e w' => e = .returned (.int .u32 (fmax a.toNat b.toNat : Nat)) ∧ Drawn0 w w' := by
  have h := run_f32_max (P := Tryd.prog)
  rw [← tl_max a.toNat b.toNat w]
  go_enter Tryd.func37, Tryd.ntmps37
  go_wp2_with (first | (go_at_call 70; refine (of_any _ _).mono ?_; rintro e w' ⟨rfl, rfl⟩) | (go_at_call 69; refine (told_any _ _).mono ?_; rintro e w' ⟨rfl, rfl⟩))
  go_ret
  exact ⟨rfl, ⟨⟨_, rfl⟩⟩⟩

theorem Neg (a : Int) (w : World) : Calls Tryd.prog 42 #[.int .u32 a] w fun e w' => e = .returned (.int .u32 (fneg a.toNat : Nat)) ∧ w = w' := by
  have h := run_f32_neg (P := Tryd.prog)
  go_enter Tryd.func42, Tryd.ntmps42
  go_wp2_with (first | (go_at_call 70; refine (of_any _ _).mono ?_; rintro e w' ⟨rfl, rfl⟩) | (go_at_call 69; refine (told_any _ _).mono ?_; rintro e w' ⟨rfl, rfl⟩))
  go_ret
  exact ⟨rfl, rfl⟩
theorem Less (a b : Int) (w : World) : Calls Tryd.prog 38 #[.int .u32 a, .int .u32 b] w fun e w' => e = .returned (.bool (flt a.toNat b.toNat)) ∧ w = w' := by
  go_enter Tryd.func38, Tryd.ntmps38
  go_wp2_with (first | (go_at_call 70; refine (of_any _ _).mono ?_; rintro e w' ⟨rfl, rfl⟩) | (go_at_call 69; refine (told_any _ _).mono ?_; rintro e w' ⟨rfl, rfl⟩))
  go_ret
  exact ⟨rfl, rfl⟩

theorem FromInt (n : Int) (w : World) : Calls Tryd.prog 75 #[.int .i64 n] w fun e w' => e = .returned (.int .u32 (tl (fint n) : Nat)) ∧ w = w' := by
  go_enter Tryd.func75, Tryd.ntmps75
  go_wp2_with (first | (go_at_call 70; refine (of_any _ _).mono ?_; rintro e w' ⟨rfl, rfl⟩) | (go_at_call 69; refine (told_any _ _).mono ?_; rintro e w' ⟨rfl, rfl⟩))
  go_ret
  exact ⟨rfl, rfl⟩

theorem Select (c a b : Int) (w : World) : Calls Tryd.prog 57 #[.int .u32 c, .int .u32 a, .int .u32 b] w fun e w' => e = .returned (.int .u32 (fsel c.toNat a.toNat b.toNat : Nat)) ∧ w = w' := by
  have hf : FloatKind.f32.format = Ieee.single := rfl
  cases h1 : (Ieee.single.order c.toNat 0 == some .lt) <;> cases h2 : (Ieee.single.order c.toNat 0 == some .gt) <;>
    (have h3 : fsel c.toNat a.toNat b.toNat = if fyes c.toNat then tl a.toNat else tl b.toNat := rfl
     simp only [fyes, flt, h1, h2, Bool.or_true, Bool.or_false, if_true, Bool.false_eq_true, if_false, Bool.or_self] at h3
     rw [h3]
     clear h3
     go_enter Tryd.func57, Tryd.ntmps57
     go_wp2_with (first | (go_at_call 70; refine (of_any _ _).mono ?_; rintro e w' ⟨rfl, rfl⟩) | (go_at_call 69; refine (told_any _ _).mono ?_; rintro e w' ⟨rfl, rfl⟩))
     go_ret
     exact ⟨rfl, rfl⟩)

theorem sqrt64_any (a : Nat) (w : World) : (callFunc 91 #[.float .f64 a]).run Tryd.prog w = .ok (.value (.float .f64 (fw (Ieee.double.sqrt a) (.nanBits .f64 a a) w))) (w.drewN (fn (Ieee.double.sqrt a))) := by
  rw [run_callFunc_extern (e := Extern.MathSqrt.sqrt) Tryd.func91 (by kernel_rfl) (by kernel_rfl) (by kernel_rfl) (by kernel_rfl), run_sqrt64]
  rfl
theorem mathSqrt_any (a : Nat) (w : World) : Calls Tryd.prog 77 #[.float .f64 a] w fun e w' => e = .returned (.float .f64 (fw (Ieee.double.sqrt a) (.nanBits .f64 a a) w)) ∧ w.drewN (fn (Ieee.double.sqrt a)) = w' := by
  have h := sqrt64_any
  go_enter Tryd.func77, Tryd.ntmps77
  go_wp2
  go_ret
  exact ⟨rfl, rfl⟩
theorem Sqrt (a : Int) (w : World) : Calls Tryd.prog 56 #[.int .u32 a] w fun e w' => e = .returned (.int .u32 (fsqrt a.toNat : Nat)) ∧ Drawn0 w w' := by
  have h := fun (w : World) (x : Nat) => run_up (P := Tryd.prog) w 73 81 x (by rw [Tryd.underlying73]; rfl) Tryd.underlying81
  obtain ⟨z, n, hd, hz⟩ := run_down (P := Tryd.prog) (w.drewN (fn (up? a.toNat) + fn (Ieee.double.sqrt (fw (up? a.toNat) (.nanConv .f64 a.toNat) w)))) 81 73 a.toNat w (w.drewN (fn (up? a.toNat))) (by rw [Tryd.underlying81]; rfl) Tryd.underlying73
  rw [← hz]
  clear hz
  go_enter Tryd.func56, Tryd.ntmps56
  go_wp2_with (first | (go_at_call 70; refine (of_any _ _).mono ?_; rintro e w' ⟨rfl, rfl⟩) | (go_at_call 69; refine (told_any _ _).mono ?_; rintro e w' ⟨rfl, rfl⟩) | (go_at_call 77; refine (mathSqrt_any _ _).mono ?_; rintro e w' ⟨rfl, rfl⟩))
  go_ret
  exact ⟨rfl, ⟨⟨_, rfl⟩⟩⟩
end Go.Proofs.YtmfladkimmnccaaDoor.Flo
namespace Go.Proofs.YtmfladkimmnccaaDoor.Pow
open Go.RowKit Lathe Go.Proofs.YtmfladkimmnccaaDoorW.PrintWords Go.Proofs.YtmfladkimmnccaaDoorW.PrintMore Go.Proofs.YtmfladkimmnccaaDoor.Flo

theorem Power_a (x n : Int) (w : World) (hn : n < 1) : Calls Tryd.prog 55 #[.int .u32 x, .int .i64 n] w fun e w' => e = .returned (.int .u32 1065353216) ∧ w = w' := by
  go_enter Tryd.func55, Tryd.ntmps55
  go_wp2
  go_ret
  exact ⟨rfl, rfl⟩
theorem ret_u32 {a b : Int} (h : a = b) : Ending.returned (.int .u32 a) = .returned (.int .u32 b) := by rw [h]
theorem cast_div (n j : Nat) : ((n / 2 ^ j : Nat) : Int) = (n : Int) / 2 ^ j := by norm_cast
theorem bit_i64 (n j : Nat) (h : n ≤ 9223372036854775807) : Go.bits .and .i64 ((n : Int) / 2 ^ j) 1 = ((n / 2 ^ j % 2 : Nat) : Int) := by
  have hle := Nat.div_le_self n (2 ^ j)
  have hlt : (n / 2 ^ j : Nat) < 2 ^ 63 := by omega
  have hlt2 : ((n / 2 ^ j : Nat) : Int) < 2 ^ 63 := Int.ofNat_lt.2 hlt
  have := bits_mask .i64 63 (by decide) (fun n h0 h1 => by rw [IntKind.wrap_i64]; omega) 1 (by omega) ((n / 2 ^ j : Nat) : Int) (Int.natCast_nonneg _) hlt2
  rw [cast_div] at this
  rw [Int.natCast_emod, cast_div]
  simpa using this
set_option maxHeartbeats 1000000 in
theorem Power_b (x n : Nat) (w : World) (h1 : 1 ≤ n) (h2 : n ≤ 9223372036854775807) : Calls Tryd.prog 55 #[.int .u32 x, .int .i64 n] w fun e w' => e = .returned (.int .u32 (powL x n (Lib.bitLen n - 1) (tl x) : Nat)) ∧ Drawn0 w w' := by
  obtain ⟨l1, l2⟩ := bitLen_pos n h1 h2
  obtain ⟨R, hR⟩ : ∃ R, R = powL x n (Lib.bitLen n - 1) (tl x) := ⟨_, rfl⟩
  rw [← hR]
  have HR := Aside0.mk hR
  clear hR
  obtain ⟨L, hL⟩ : ∃ L, Lib.bitLen n = L := ⟨_, rfl⟩
  have hlen : ∀ w, Calls Tryd.prog 76 #[.int .u64 n] w fun e w' => e = .returned (.int .i64 (L : Nat)) ∧ w = w' := fun w => (Tryd.bits_Len n w (by omega) (by omega)).mono fun e w' h => ⟨by rw [h.1, Int.toNat_natCast, hL], h.2.symm⟩
  rw [hL] at l1 l2
  have HL := Aside0.mk hL
  clear hL
  go_enter Tryd.func55, Tryd.ntmps55
  go_wp2_with (first | (go_at_call 70; refine (of_any _ _).mono ?_; rintro e w' ⟨rfl, rfl⟩) | (go_at_call 69; refine (told_any _ _).mono ?_; rintro e w' ⟨rfl, rfl⟩) | (go_at_call 76; refine (hlen _).mono ?_; rintro e w' ⟨rfl, rfl⟩))
  clear hlen
  go_loopw [5, 6] (fun v5 v6 wr => ∃ (j r : Nat) (i : Int), j ≤ 63 ∧ i + 1 ≤ j ∧ j ≤ i + 1 ∧ v5 = .int .u32 r ∧ v6 = .int .i64 i ∧ Aside0 (powL x n j r = R) ∧ Drawn0 w wr) (fun _ v6 _ => (intOf v6 + 1).toNat)
  case atStart => exact ⟨L - 1, tl x, (L : Int) - 2, by omega, by omega, by omega, rfl, rfl, ⟨by rw [HR.out, HL.out]⟩, Drawn0.refl _⟩
  case round =>
    obtain ⟨j, r, i, hj, hi1, hi2, rfl, rfl, HP, HD⟩ := hrel
    by_cases hi : 0 ≤ i
    · obtain ⟨m, rfl⟩ := Int.eq_ofNat_of_zero_le hi
      obtain rfl : j = m + 1 := by omega
      have hb := bit_i64 n m h2
      have HP := HP.out
      by_cases hbit : n / 2 ^ m % 2 = 1
      · rw [hbit] at hb
        rw [powL, if_pos hbit] at HP
        have HP2 := Aside0.mk HP
        clear HP hbit
        go_wp2_with (first | (go_at_call 40; refine (Mul _ _ _).mono ?_; rintro e w' ⟨rfl, ⟨nd, rfl⟩⟩))
        go_roundw
        case rel => exact ⟨m, _, (m : Int) - 1, by omega, by omega, by omega, rfl, rfl, HP2, by repeat (first | exact HD | apply Drawn0.step)⟩
        case measure => simp [intOf]
      · have hbit0 : n / 2 ^ m % 2 = 0 := by omega
        rw [hbit0] at hb
        rw [powL, if_neg hbit] at HP
        have HP2 := Aside0.mk HP
        clear HP hbit hbit0
        go_wp2_with (first | (go_at_call 40; refine (Mul _ _ _).mono ?_; rintro e w' ⟨rfl, ⟨nd, rfl⟩⟩))
        go_roundw
        case rel => exact ⟨m, _, (m : Int) - 1, by omega, by omega, by omega, rfl, rfl, HP2, by repeat (first | exact HD | apply Drawn0.step)⟩
        case measure => simp [intOf]
    · obtain rfl : j = 0 := by omega
      go_wp2
      go_ret
      exact ⟨ret_u32 (congrArg Nat.cast HP.out), HD⟩
theorem Power (x n : Int) (w : World) (h2 : n ≤ 9223372036854775807) (hx : 0 ≤ x) : Calls Tryd.prog 55 #[.int .u32 x, .int .i64 n] w fun e w' => e = .returned (.int .u32 (fpow x.toNat n : Nat)) ∧ Drawn0 w w' := by
  unfold fpow
  by_cases h : n < 1
  · rw [if_pos h]
    exact (Power_a x n w h).mono fun e w' h => ⟨h.1, h.2 ▸ Drawn0.refl _⟩
  · rw [if_neg h]
    obtain ⟨m, rfl⟩ := Int.eq_ofNat_of_zero_le (show 0 ≤ n by omega)
    obtain ⟨y, rfl⟩ := Int.eq_ofNat_of_zero_le hx
    exact Power_b y m w (by omega) (by omega)
end Go.Proofs.YtmfladkimmnccaaDoor.Pow
