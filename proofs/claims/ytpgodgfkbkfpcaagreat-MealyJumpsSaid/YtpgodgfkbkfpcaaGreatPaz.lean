/- pair.Add. No condition. -/
import Derived.Test.YtpgodgfkbkfpcaaGreatCan
import Derived.Deep.QuietTactic
import Derived.BigQuiet
import Derived.Deep.RegionWith
import Derived.Deep.RegionHeld3
set_option linter.unusedVariables false
set_option linter.unusedSimpArgs false
namespace Go.Proofs.YtpgodgfkbkfpcaaGreat.Paz
open Go.RowKit Lathe Go.Proofs.YtpgodgfkbkfpcaaGreat.Meb
theorem ba {a w : World} (h : Below a.heap.size a w) (o : Obj) : Below a.heap.size a (w.alloc o) := h.alloc h.size o
theorem bd {n : Nat} {a w : World} (h : Below n a w) (q : Nat) : Below n a (w.drewN q) := ⟨h.os, h.tape, h.output, h.size, h.block⟩
theorem bs {n g j : Nat} {a w : World} {v : Value} (h : Below n a w) (hp : n ≤ g) : Below n a (w.setCell ⟨g, j, none⟩ v) := h.setCell hp v
theorem of_any (a b : Int) (w : World) : Calls Tryz.prog 295 #[.agg #[.int .u32 a, .int .u32 b]] w fun e w' => e = .returned (.complex .f32 a.toNat b.toNat) ∧ ∃ n, (w.alloc (.cells #[.int .u32 a, .int .u32 b] 105)).drewN n = w' := by
  have h := frombits_any
  go_enter Tryz.func295, Tryz.ntmps295
  go_wp2
  go_quiet (fail)
  go_wp2
  go_ret
  exact ⟨rfl, _, rfl⟩
theorem pattern_any (a : Nat) (w : World) : Calls Tryz.prog 296 #[.float .f32 a] w fun e w' => e = .returned (.int .u32 (tl a)) ∧ w = w' := by
  have h := bits_any
  have h2 : FloatKind.f32.format = Ieee.single := rfl
  by_cases h3 : Ieee.single.order a a = some .eq
  · have h4 : tl a = a := by simp [tl, h3]
    rw [h4]
    go_enter Tryz.func296, Tryz.ntmps296
    go_wp2
    go_ret
    exact ⟨rfl, rfl⟩
  · have h4 : tl a = 2143289344 := by simp [tl, h3]
    rw [h4]
    have h5 : (Ieee.single.order a a != some .eq) = true := by simp [h3]
    clear h3
    go_enter Tryz.func296, Tryz.ntmps296
    go_wp2
    go_ret
    exact ⟨rfl, rfl⟩
theorem told_any (a b : Nat) (w : World) : Calls Tryz.prog 313 #[.complex .f32 a b] w fun e w' => e = .returned (.agg #[.int .u32 (tl a), .int .u32 (tl b)]) ∧ w.alloc (.cells #[.int .u32 (tl a), .int .u32 (tl b)] 105) = w' := by
  go_enter Tryz.func313, Tryz.ntmps313
  go_wp2_with (first | (go_at_call 296; refine (pattern_any _ _).mono ?_; rintro e w' ⟨rfl, rfl⟩))
  (try simp only [Exit.inBlock, Exit.then])
  exact bodyPost_ret (v := .agg #[.int .u32 (tl a), .int .u32 (tl b)]) (by simp [results, Tryz.results313, go_sem]) rfl ⟨rfl, rfl⟩
theorem Add_any (a b c d : Int) (w : World) : Calls Tryz.prog 312 #[.agg #[.int .u32 a, .int .u32 b], .agg #[.int .u32 c, .int .u32 d]] w fun e w' => e = .returned (.agg #[.int .u32 (fadd a.toNat c.toNat : Nat), .int .u32 (fadd b.toNat d.toNat : Nat)]) ∧ Below w.heap.size w w' := by
  have h := run_f32_add (P := Tryz.prog)
  have h1 := tl_add
  go_enter Tryz.func312, Tryz.ntmps312
  go_wp2_with fail
  go_region_with ((go_at_call 295; refine (of_any _ _ _).mono ?_; rintro e w' ⟨rfl, n, rfl⟩))
  all_goals (go_wp2_with (first | (go_at_call 313; refine (told_any _ _ _).mono ?_; rintro e w' ⟨rfl, rfl⟩)); (try simp only [Exit.inBlock, Exit.then]); exact bodyPost_ret (v := .agg #[.int .u32 (fadd a.toNat c.toNat : Nat), .int .u32 (fadd b.toNat d.toNat : Nat)]) (by simp [results, Tryz.results312, go_sem]) rfl ⟨rfl, by repeat (with_reducible first | exact Below.refl _ _ | apply ba | apply bd | refine bs ?_ (by omega))⟩)
end Go.Proofs.YtpgodgfkbkfpcaaGreat.Paz
