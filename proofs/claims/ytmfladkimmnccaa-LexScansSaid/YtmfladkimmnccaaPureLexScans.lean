/- LexScans: the program's scan is the reference's. No condition. -/
import Derived.Test.YtmfladkimmnccaaPLx7
import Derived.Test.YtmfladkimmnccaaLxp
namespace Go.Proofs.Ytmfladkimmnccaa.Pure
open Go.RowKit Go.Proofs.Ytmfladkimmnccaa.PL Go.Proofs.YtmfladkimmnccaaW.PrintWords Go.Proofs.YtmfladkimmnccaaW.PrintLast Go.Proofs.Ytmfladkimmnccaa.Lx

theorem LexScans : lathelaw06_LexScans.Pure := by
  intro s _
  have hlen : ((scan s).1.map toS).length < 4398046511104 := by
    rw [List.length_map]
    have := scan_len s
    omega
  obtain ⟨K1, h1⟩ := scan_ref_at s
  obtain ⟨K2, h2⟩ := same_self_at _ hlen
  refine ⟨K1 + K2, ?_⟩
  unfold lathelaw06_LexScans.f
  rw [scan_f]
  simp -implicitDefEqProofs only [Option.bind_some]
  rw [h1 _ (by omega)]
  simp -implicitDefEqProofs only [Option.bind_some]
  rw [h2 _ (by omega)]
  simp -implicitDefEqProofs only [Option.bind_some]
  rw [if_pos trivial, if_pos trivial, if_pos trivial, works]
  rfl
end Go.Proofs.Ytmfladkimmnccaa.Pure
