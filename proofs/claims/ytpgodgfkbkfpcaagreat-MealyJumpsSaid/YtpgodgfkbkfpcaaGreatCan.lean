/- bits.Canon at nought, one, two, three. No condition. -/
import Derived.Test.YtpgodgfkbkfpcaaGreatMeb
set_option linter.unusedVariables false
set_option linter.unusedSimpArgs false
namespace Go.Proofs.YtpgodgfkbkfpcaaGreat.Meb
open Go.RowKit Lathe
set_option maxHeartbeats 400000 in
set_option maxRecDepth 100000 in
theorem parts_0 (W : World) : Calls Tryz.prog 148 #[.int .u32 0] W fun e w' => e = .returned (.tuple #[.bool false, .int .i64 0, .int .i64 0]) ∧ w' = W := by
  go_enter Tryz.func148, Tryz.ntmps148
  go_wp2
  go_ret3
  exact ⟨by kernel_rfl, rfl⟩
set_option maxHeartbeats 400000 in
set_option maxRecDepth 100000 in
theorem class_0 (W : World) : Calls Tryz.prog 94 #[.int .u32 0] W fun e w' => e = .returned (.int .i64 1) ∧ w' = W := by
  go_enter Tryz.func94, Tryz.ntmps94
  go_wp2_with (go_at_call 148; refine (parts_0 _).mono ?_; rintro e w' ⟨rfl, rfl⟩)
  go_ret
  exact ⟨rfl, rfl⟩
set_option maxHeartbeats 400000 in
set_option maxRecDepth 100000 in
theorem canon_0 (W : World) : Calls Tryz.prog 68 #[.int .u32 0] W fun e w' => e = .returned (.int .u32 0) ∧ w' = W := by
  go_enter Tryz.func68, Tryz.ntmps68
  go_wp2_with (go_at_call 94; refine (class_0 _).mono ?_; rintro e w' ⟨rfl, rfl⟩)
  go_ret
  exact ⟨rfl, rfl⟩
set_option maxHeartbeats 400000 in
set_option maxRecDepth 100000 in
theorem parts_1065353216 (W : World) : Calls Tryz.prog 148 #[.int .u32 1065353216] W fun e w' => e = .returned (.tuple #[.bool false, .int .i64 127, .int .i64 0]) ∧ w' = W := by
  go_enter Tryz.func148, Tryz.ntmps148
  go_wp2
  go_ret3
  exact ⟨by kernel_rfl, rfl⟩
set_option maxHeartbeats 400000 in
set_option maxRecDepth 100000 in
theorem class_1065353216 (W : World) : Calls Tryz.prog 94 #[.int .u32 1065353216] W fun e w' => e = .returned (.int .i64 3) ∧ w' = W := by
  go_enter Tryz.func94, Tryz.ntmps94
  go_wp2_with (go_at_call 148; refine (parts_1065353216 _).mono ?_; rintro e w' ⟨rfl, rfl⟩)
  go_ret
  exact ⟨rfl, rfl⟩
set_option maxHeartbeats 400000 in
set_option maxRecDepth 100000 in
theorem canon_1065353216 (W : World) : Calls Tryz.prog 68 #[.int .u32 1065353216] W fun e w' => e = .returned (.int .u32 1065353216) ∧ w' = W := by
  go_enter Tryz.func68, Tryz.ntmps68
  go_wp2_with (go_at_call 94; refine (class_1065353216 _).mono ?_; rintro e w' ⟨rfl, rfl⟩)
  go_ret
  exact ⟨rfl, rfl⟩
set_option maxHeartbeats 400000 in
set_option maxRecDepth 100000 in
theorem parts_1073741824 (W : World) : Calls Tryz.prog 148 #[.int .u32 1073741824] W fun e w' => e = .returned (.tuple #[.bool false, .int .i64 128, .int .i64 0]) ∧ w' = W := by
  go_enter Tryz.func148, Tryz.ntmps148
  go_wp2
  go_ret3
  exact ⟨by kernel_rfl, rfl⟩
set_option maxHeartbeats 400000 in
set_option maxRecDepth 100000 in
theorem class_1073741824 (W : World) : Calls Tryz.prog 94 #[.int .u32 1073741824] W fun e w' => e = .returned (.int .i64 3) ∧ w' = W := by
  go_enter Tryz.func94, Tryz.ntmps94
  go_wp2_with (go_at_call 148; refine (parts_1073741824 _).mono ?_; rintro e w' ⟨rfl, rfl⟩)
  go_ret
  exact ⟨rfl, rfl⟩
set_option maxHeartbeats 400000 in
set_option maxRecDepth 100000 in
theorem canon_1073741824 (W : World) : Calls Tryz.prog 68 #[.int .u32 1073741824] W fun e w' => e = .returned (.int .u32 1073741824) ∧ w' = W := by
  go_enter Tryz.func68, Tryz.ntmps68
  go_wp2_with (go_at_call 94; refine (class_1073741824 _).mono ?_; rintro e w' ⟨rfl, rfl⟩)
  go_ret
  exact ⟨rfl, rfl⟩
set_option maxHeartbeats 400000 in
set_option maxRecDepth 100000 in
theorem parts_1077936128 (W : World) : Calls Tryz.prog 148 #[.int .u32 1077936128] W fun e w' => e = .returned (.tuple #[.bool false, .int .i64 128, .int .i64 4194304]) ∧ w' = W := by
  go_enter Tryz.func148, Tryz.ntmps148
  go_wp2
  go_ret3
  exact ⟨by kernel_rfl, rfl⟩
set_option maxHeartbeats 400000 in
set_option maxRecDepth 100000 in
theorem class_1077936128 (W : World) : Calls Tryz.prog 94 #[.int .u32 1077936128] W fun e w' => e = .returned (.int .i64 3) ∧ w' = W := by
  go_enter Tryz.func94, Tryz.ntmps94
  go_wp2_with (go_at_call 148; refine (parts_1077936128 _).mono ?_; rintro e w' ⟨rfl, rfl⟩)
  go_ret
  exact ⟨rfl, rfl⟩
set_option maxHeartbeats 400000 in
set_option maxRecDepth 100000 in
theorem canon_1077936128 (W : World) : Calls Tryz.prog 68 #[.int .u32 1077936128] W fun e w' => e = .returned (.int .u32 1077936128) ∧ w' = W := by
  go_enter Tryz.func68, Tryz.ntmps68
  go_wp2_with (go_at_call 94; refine (class_1077936128 _).mono ?_; rintro e w' ⟨rfl, rfl⟩)
  go_ret
  exact ⟨rfl, rfl⟩
end Go.Proofs.YtpgodgfkbkfpcaaGreat.Meb
