/- SchedOnes: a call with any schedule and any step answers true. No condition. -/
import Derived.Test.YtmfladkimmnccaaDoorTwn
set_option linter.unusedVariables false
namespace Go.Proofs.YtmfladkimmnccaaDoor.Pure
open Go.RowKit Lathe Go.Proofs.YtmfladkimmnccaaDoorW.PrintWords Go.Proofs.YtmfladkimmnccaaDoorW.PrintMore Go.Proofs.YtmfladkimmnccaaDoor.PW Go.Proofs.YtmfladkimmnccaaDoor.Tre Go.Proofs.YtmfladkimmnccaaDoor.Sto
theorem SchedOnes (w : World) (hl : Wav.Lies w) (d : Nat) (x : T) (h : Wf d x) (n : Int) {A1 A2 A3 : Option Addr} {c1 c2 c3 : Nat} (hr1 : Kd.C (Kd.int .u32) w A1 x.f1.length x.f1) (hc1 : x.f1.length ≤ c1) (hr2 : Kd.C (Kd.int .i64) w A2 x.f2.length x.f2) (hc2 : x.f2.length ≤ c2) (hr3 : Kd.C k26 w A3 x.f3.length x.f3) (hc3 : x.f3.length ≤ c3) :
    Calls Tryd.prog 9 #[.agg #[.int .i64 x.f0, .slice A1 x.f1.length c1, .slice A2 x.f2.length c2, .slice A3 x.f3.length c3], .int .i64 n] w fun e w' => e = .returned (.bool true) ∧ Below w.heap.size w w' := by
  obtain ⟨K, hK⟩ := ones_law d x h n
  exact lathelaw14_SchedOnes.calls K x.f0 A1 c1 x.f1 A2 c2 x.f2 A3 c3 x.f3 n true w hl hr1 hc1 hr2 hc2 hr3 hc3 (hK K (Nat.le_refl _))
end Go.Proofs.YtmfladkimmnccaaDoor.Pure
