/- SchedWaves: the wave of every pattern is the reference's. No condition. -/
import Derived.Test.YtmfladkimmnccaaDoorSwv
import Derived.Test.YtmfladkimmnccaaDoorPWx9
set_option linter.unusedVariables false
namespace Go.Proofs.YtmfladkimmnccaaDoor.Pure
open Go.RowKit Lathe Go.Proofs.YtmfladkimmnccaaDoor.PW Go.Proofs.YtmfladkimmnccaaDoor.Swv
theorem SchedWaves : lathelaw14_SchedWaves.Pure := by
  intro a0 h0
  obtain ⟨a, rfl, ha⟩ := pat h0
  have hw := wv_lt a ha
  refine ⟨200, ?_⟩
  unfold lathelaw14_SchedWaves.f sched_Wave.f
  simp -implicitDefEqProofs only [Option.bind_some]
  rw [show wrap64 (a : Int) = (a : Int) by unfold wrap64; omega, Wave_f 200 a ha (by omega)]
  simp -implicitDefEqProofs only [Option.bind_some]
  rw [if_pos (by unfold wrap64; omega), works 200 (by omega)]
  rfl
end Go.Proofs.YtmfladkimmnccaaDoor.Pure
