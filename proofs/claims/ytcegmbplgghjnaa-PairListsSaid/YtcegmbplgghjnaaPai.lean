/- The contracts of package pair's functions. No condition. -/
import Derived.Test.YtcegmbplgghjnaaWal
import Derived.Test.YtcegmbplgghjnaaFlo
import Derived.Deep.QuietTactic
import Derived.BigQuiet
import Derived.Deep.RegionWith
import Derived.Deep.RegionHeld3
namespace Go.Proofs.Ytcegmbplgghjnaa.Pai
open Go.RowKit Lathe Go.Proofs.YtcegmbplgghjnaaW.PrintWords Go.Proofs.YtcegmbplgghjnaaW.PrintMore Go.Proofs.Ytcegmbplgghjnaa.Flo

theorem of_any (a b : Int) (w : World) : Calls Try.prog 86 #[.agg #[.int .u32 a, .int .u32 b]] w fun e w' => e = .returned (.complex .f32 a.toNat b.toNat) ∧ ∃ n, (w.alloc (.cells #[.int .u32 a, .int .u32 b] 25)).drewN n = w' := by
  have h := frombits_any
  go_enter Try.func86, Try.ntmps86
  go_wp2
  go_quiet (fail)
  go_wp2
  go_ret
  exact ⟨rfl, _, rfl⟩
theorem pattern_any (a : Nat) (w : World) : Calls Try.prog 90 #[.float .f32 a] w fun e w' => e = .returned (.int .u32 (tl a)) ∧ w = w' := by
  have h := bits_any
  have h2 : FloatKind.f32.format = Ieee.single := rfl
  by_cases h3 : Ieee.single.order a a = some .eq
  · have h4 : tl a = a := by simp [tl, h3]
    rw [h4]
    go_enter Try.func90, Try.ntmps90
    go_wp2
    go_ret
    exact ⟨rfl, rfl⟩
  · have h4 : tl a = 2143289344 := by simp [tl, h3]
    rw [h4]
    have h5 : (Ieee.single.order a a != some .eq) = true := by simp [h3]
    clear h3
    go_enter Try.func90, Try.ntmps90
    go_wp2
    go_ret
    exact ⟨rfl, rfl⟩
theorem told_any (a b : Nat) (w : World) : Calls Try.prog 84 #[.complex .f32 a b] w fun e w' => e = .returned (.agg #[.int .u32 (tl a), .int .u32 (tl b)]) ∧ w.alloc (.cells #[.int .u32 (tl a), .int .u32 (tl b)] 25) = w' := by
  go_enter Try.func84, Try.ntmps84
  go_wp2_with (first | (go_at_call 90; refine (pattern_any _ _).mono ?_; rintro e w' ⟨rfl, rfl⟩))
  exact bodyPost_ret (v := .agg #[.int .u32 (tl a), .int .u32 (tl b)]) (by simp [results, Try.results84, go_sem]) rfl ⟨rfl, rfl⟩
theorem Add_any (a b c d : Int) (w : World) : Calls Try.prog 32 #[.agg #[.int .u32 a, .int .u32 b], .agg #[.int .u32 c, .int .u32 d]] w fun e w' => e = .returned (.agg #[.int .u32 (fadd a.toNat c.toNat : Nat), .int .u32 (fadd b.toNat d.toNat : Nat)]) ∧ Below w.heap.size w w' := by
  have h := run_f32_add (P := Try.prog)
  have h1 := tl_add
  go_enter Try.func32, Try.ntmps32
  go_wp2_with fail
  go_region_with ((go_at_call 86; refine (of_any _ _ _).mono ?_; rintro e w' ⟨rfl, n, rfl⟩))
  all_goals (go_wp2_with (first | (go_at_call 84; refine (told_any _ _ _).mono ?_; rintro e w' ⟨rfl, rfl⟩)); exact bodyPost_ret (v := .agg #[.int .u32 (fadd a.toNat c.toNat : Nat), .int .u32 (fadd b.toNat d.toNat : Nat)]) (by simp [results, Try.results32, go_sem]) rfl ⟨rfl, by repeat (with_reducible first | exact Below.refl _ _ | apply below_alloc | apply pw_below_drewN | refine below_set ?_ (by omega))⟩)
theorem Sub_any (a b c d : Int) (w : World) : Calls Try.prog 34 #[.agg #[.int .u32 a, .int .u32 b], .agg #[.int .u32 c, .int .u32 d]] w fun e w' => e = .returned (.agg #[.int .u32 (fsub a.toNat c.toNat : Nat), .int .u32 (fsub b.toNat d.toNat : Nat)]) ∧ Below w.heap.size w w' := by
  have h := run_f32_sub (P := Try.prog)
  have h1 := tl_sub
  go_enter Try.func34, Try.ntmps34
  go_wp2_with fail
  go_region_with ((go_at_call 86; refine (of_any _ _ _).mono ?_; rintro e w' ⟨rfl, n, rfl⟩))
  all_goals (go_wp2_with (first | (go_at_call 84; refine (told_any _ _ _).mono ?_; rintro e w' ⟨rfl, rfl⟩)); exact bodyPost_ret (v := .agg #[.int .u32 (fsub a.toNat c.toNat : Nat), .int .u32 (fsub b.toNat d.toNat : Nat)]) (by simp [results, Try.results34, go_sem]) rfl ⟨rfl, by repeat (with_reducible first | exact Below.refl _ _ | apply below_alloc | apply pw_below_drewN | refine below_set ?_ (by omega))⟩)
theorem Neg_any (a b : Int) (w : World) : Calls Try.prog 36 #[.agg #[.int .u32 a, .int .u32 b]] w fun e w' => e = .returned (.agg #[.int .u32 (fneg a.toNat : Nat), .int .u32 (fneg b.toNat : Nat)]) ∧ Below w.heap.size w w' := by
  have h : ∀ (x : Nat) (w : World), (Op.unary .neg (.float .f32 x)).run Try.prog w = .ok (.float .f32 (Lathe.flip x)) w := fun x w => run_f32_neg w x
  have h1 : ∀ x : Nat, tl (Lathe.flip x) = fneg x := fun _ => rfl
  go_enter Try.func36, Try.ntmps36
  go_wp2_with (first | (go_at_call 86; refine (of_any _ _ _).mono ?_; rintro e w' ⟨rfl, n, rfl⟩) | (go_at_call 84; refine (told_any _ _ _).mono ?_; rintro e w' ⟨rfl, rfl⟩))
  exact bodyPost_ret (v := .agg #[.int .u32 (fneg a.toNat : Nat), .int .u32 (fneg b.toNat : Nat)]) (by simp [results, Try.results36, go_sem]) rfl ⟨rfl, by repeat (with_reducible first | exact Below.refl _ _ | apply below_alloc | apply pw_below_drewN | refine below_set ?_ (by omega))⟩
theorem Conj_any (a b : Int) (w : World) : Calls Try.prog 31 #[.agg #[.int .u32 a, .int .u32 b]] w fun e w' => e = .returned (.agg #[.int .u32 (tl a.toNat : Nat), .int .u32 (fneg b.toNat : Nat)]) ∧ Below w.heap.size w w' := by
  have h : ∀ (x : Nat) (w : World), (Op.unary .neg (.float .f32 x)).run Try.prog w = .ok (.float .f32 (Lathe.flip x)) w := fun x w => run_f32_neg w x
  have h1 : ∀ x : Nat, tl (Lathe.flip x) = fneg x := fun _ => rfl
  go_enter Try.func31, Try.ntmps31
  go_wp2_with (first | (go_at_call 86; refine (of_any _ _ _).mono ?_; rintro e w' ⟨rfl, n, rfl⟩) | (go_at_call 84; refine (told_any _ _ _).mono ?_; rintro e w' ⟨rfl, rfl⟩))
  exact bodyPost_ret (v := .agg #[.int .u32 (tl a.toNat : Nat), .int .u32 (fneg b.toNat : Nat)]) (by simp [results, Try.results31, go_sem]) rfl ⟨rfl, by repeat (with_reducible first | exact Below.refl _ _ | apply below_alloc | apply pw_below_drewN | refine below_set ?_ (by omega))⟩
theorem Scale_any (a b c : Int) (w : World) : Calls Try.prog 39 #[.agg #[.int .u32 a, .int .u32 b], .int .u32 c] w fun e w' => e = .returned (.agg #[.int .u32 (fmul a.toNat c.toNat : Nat), .int .u32 (fmul b.toNat c.toNat : Nat)]) ∧ Below w.heap.size w w' := by
  have h := run_f32_mul (P := Try.prog)
  have h1 := tl_mul
  have h2 := frombits_any
  go_enter Try.func39, Try.ntmps39
  go_wp2_with (first | (go_at_call 86; refine (of_any _ _ _).mono ?_; rintro e w' ⟨rfl, n, rfl⟩) | (go_at_call 84; refine (told_any _ _ _).mono ?_; rintro e w' ⟨rfl, rfl⟩))
  exact bodyPost_ret (v := .agg #[.int .u32 (fmul a.toNat c.toNat : Nat), .int .u32 (fmul b.toNat c.toNat : Nat)]) (by simp [results, Try.results39, go_sem]) rfl ⟨rfl, by repeat (with_reducible first | exact Below.refl _ _ | apply below_alloc | apply pw_below_drewN | refine below_set ?_ (by omega))⟩
end Go.Proofs.Ytcegmbplgghjnaa.Pai
