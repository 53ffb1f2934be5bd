/- The contract of package sched's row at a join and a piecewise schedule. No condition. -/
import Derived.Test.YtmfladkimmnccaaDoorRow
import Derived.Test.YtmfladkimmnccaaDoorPWxa
set_option linter.unusedVariables false
set_option linter.unusedSimpArgs false
namespace Go.Proofs.YtmfladkimmnccaaDoor.Row
open Go.RowKit Lathe Go.Proofs.YtmfladkimmnccaaDoor.PW Go.Proofs.YtmfladkimmnccaaDoorW.PrintWords Go.Proofs.YtmfladkimmnccaaDoorW.PrintMore Go.Proofs.YtmfladkimmnccaaDoor.Flo

set_option maxHeartbeats 8000000 in
set_option maxRecDepth 100000 in
theorem row_6 (A1 A2 A3 : Option Addr) (n1 n3 c1 c2 c3 k : Nat) (l2 : List Int) (r : Bool) (w : World) (hr : Kd.C (Kd.int .i64) w A2 l2.length l2) (hc : l2.length ≤ c2) (hs : l2.length ≤ 9223372036854775806) (h : sched_rising.f k l2 = some r) : Calls Tryd.prog 65 #[.agg #[.int .i64 6, .slice A1 n1 c1, .slice A2 l2.length c2, .slice A3 n3 c3]] w fun e w' => e = .returned (.bool (decide (n1 = 0) && ((n3 : Int) == (l2.length : Int) + 1) && r)) ∧ Below w.heap.size w w' := by
  have hmf : ∀ (fn : Fn) (first cap : Array Value) (w : World), (Instr.makeFunc fn first cap).run Tryd.prog w = .ok (.func fn first cap) w := fun _ _ _ _ => rfl
  have hrise : ∀ w1, Below w.heap.size w w1 → Calls Tryd.prog 83 #[.slice A2 l2.length c2] w1 fun e w' => e = .returned (.bool r) ∧ Drawn0 w1 w' := fun w1 hb => (sched_rising.calls k A2 c2 l2 r w1 (Kd.C_below hr hb) hc h)
  go_enter Tryd.func65, Tryd.ntmps65
  go_wp2
  go_region_held3 (fun w' => w'.cell? ⟨w.heap.size, 1, none⟩ = some (.slice A1 n1 c1) ∧ w'.cell? ⟨w.heap.size, 2, none⟩ = some (.slice A2 l2.length c2) ∧ w'.cell? ⟨w.heap.size, 3, none⟩ = some (.slice A3 n3 c3)) (go_keep) (fail)
  all_goals go_wp2_with (go_at_call 83; refine (hrise _ (by repeat (first | exact Below.refl _ _ | refine below_drew ?_ | refine below_alloc ?_ _))).mono ?_; rintro e w' ⟨rfl, ⟨nd, rfl⟩⟩)
  all_goals go_ret
  all_goals (refine ⟨?_, by repeat (first | exact Below.refl _ _ | refine below_drew ?_ | apply pw_below_drewN | refine below_alloc ?_ _)⟩)
  all_goals simp [*]
end Go.Proofs.YtmfladkimmnccaaDoor.Row
