/- The contracts of package pair's products. No condition. -/
import Derived.Test.YtcegmbplgghjnaaPai
namespace Go.Proofs.Ytcegmbplgghjnaa.Pai
open Go.RowKit Lathe Go.Proofs.YtcegmbplgghjnaaW.PrintWords Go.Proofs.YtcegmbplgghjnaaW.PrintMore Go.Proofs.Ytcegmbplgghjnaa.Flo

theorem ret_u32 {a b : Int} (h : a = b) : Ending.returned (.int .u32 a) = .returned (.int .u32 b) := by rw [h]
/-- What a product leaves: bits of which just this is told. -/
def Prod (a b c d : Nat) (w : World) (e : Ending) (w' : World) : Prop := ∃ x y n, e = .returned (.complex .f32 x y) ∧ tl x = fsub (fmul a c) (fmul b d) ∧ tl y = fadd (fmul a d) (fmul b c) ∧ w.drewN n = w'
theorem product_any (a b c d : Nat) (w : World) : Calls Try.prog 85 #[.complex .f32 a b, .complex .f32 c d] w (Prod a b c d w) := by
  have h1 := run_f32_add (P := Try.prog)
  have h2 := run_f32_sub (P := Try.prog)
  have h3 := run_f32_mul (P := Try.prog)
  go_enter Try.func85, Try.ntmps85
  go_wp2
  go_ret
  exact ⟨_, _, _, rfl, by rw [tl_sub, ← fsub_tl, tl_mul, tl_mul], by rw [tl_add, ← fadd_tl, tl_mul, tl_mul], rfl⟩
set_option maxHeartbeats 2000000 in
theorem Mul_any (a b c d : Int) (w : World) : Calls Try.prog 23 #[.agg #[.int .u32 a, .int .u32 b], .agg #[.int .u32 c, .int .u32 d]] w fun e w' => e = .returned (.agg #[.int .u32 (fsub (fmul a.toNat c.toNat) (fmul b.toNat d.toNat) : Nat), .int .u32 (fadd (fmul a.toNat d.toNat) (fmul b.toNat c.toNat) : Nat)]) ∧ Below w.heap.size w w' := by
  go_enter Try.func23, Try.ntmps23
  go_wp2_with fail
  go_region_with (first | (go_at_call 86; refine (of_any _ _ _).mono ?_; rintro e w' ⟨rfl, n, rfl⟩) | (go_at_call 85; refine (product_any _ _ _ _ _).mono ?_; rintro e w' ⟨x, y, n, rfl, hx, hy, rfl⟩) | (go_at_call 84; refine (told_any _ _ _).mono ?_; rintro e w' ⟨rfl, rfl⟩))
  all_goals (go_wp2; exact bodyPost_ret (v := .agg #[.int .u32 (fsub (fmul a.toNat c.toNat) (fmul b.toNat d.toNat) : Nat), .int .u32 (fadd (fmul a.toNat d.toNat) (fmul b.toNat c.toNat) : Nat)]) (by simp [results, Try.results23, go_sem]) rfl ⟨rfl, by repeat (with_reducible first | exact Below.refl _ _ | apply below_alloc | apply pw_below_drewN | refine below_set ?_ (by omega))⟩)
theorem Square_any (a b : Int) (w : World) : Calls Try.prog 25 #[.agg #[.int .u32 a, .int .u32 b]] w fun e w' => e = .returned (.int .u32 (fadd (fmul a.toNat a.toNat) (fmul b.toNat b.toNat) : Nat)) ∧ Below w.heap.size w w' := by
  have h1 := run_f32_add (P := Try.prog)
  have h3 := run_f32_mul (P := Try.prog)
  go_enter Try.func25, Try.ntmps25
  go_wp2_with (first | (go_at_call 86; refine (of_any _ _ _).mono ?_; rintro e w' ⟨rfl, n, rfl⟩) | (go_at_call 90; refine (pattern_any _ _).mono ?_; rintro e w' ⟨rfl, rfl⟩))
  go_ret
  exact ⟨ret_u32 (congrArg Nat.cast (by rw [tl_add, ← fadd_tl, tl_mul, tl_mul])), by repeat (with_reducible first | exact Below.refl _ _ | apply below_alloc | apply pw_below_drewN)⟩
end Go.Proofs.Ytcegmbplgghjnaa.Pai
