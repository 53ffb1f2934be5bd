/-
  NARROWER THAN 'FOR EVERY INPUT', by the rows' own cells (each row's printed sentence says how): SchedValues: loops, laid · SchedWaves: laid · SchedWave: laid · SchedDown: laid · SchedJoins: loops, laid · SchedPairs: loops, laid · SchedOnes: loops, laid.
  DERIVED. THE GIVEN ROWS OF THIS SEAT. 7 by the template 'for every input the law returns true; each argument reads behind the call as it read before'; 0 by the template 'total and deterministic' (their statements: YtmfladkimmnccaaDoorTotals.lean).
  GIVEN WITH THE SEED: the statements are not yours to turn. If you find one false, say at which input.
  Laid BY PROGRAM, IN A SANDBOX (cutbox-rows.mjs): the forced cells as the released guide's own fill.sh prints them over the translation 906266846744159c… (all of the seat's roots in one cut). By AI agents, Wed Nov 11 2026. No macro, syntax, notation, axiom, sorry.
-/
import Derived.Test.YtmfladkimmnccaaDoorChecked
import GoSem.Claim
import GoSem.ClaimJoined
import GoSem.ClaimMapViews
import Derived.JoinedTies
import Derived.KernelRfl
namespace Go.Proofs.YtmfladkimmnccaaDoor
/- THE CELL 'sum', in the pinned program and in every row, IS THE sha256 OF THE DUMP (.gsa) THAT YtmfladkimmnccaaDoorProg.lean LOADS. Nothing in Lean hashes anything: it is a label: what it is worth is what the hold of that sum in a sandbox is worth. -/
noncomputable def Tryd.pinned : Pinned := { name := "ytmfladkimmnccaadoor", sum := "906266846744159c7b9fdc083013726fe90e8f8a6edf575e8fdeab35e925d412", checked := Tryd.checked }
namespace Rows
def none {H : Type} : Left H := { results := [], args := [] }

/- WHAT THE LISTED PACKAGE-LEVEL VARIABLES READ AS WHEN THE CALL BEGINS. Each datum BY PROGRAM (the guide's laid-datum.mjs) off the statement by which the dump's own 'gosem.cut.vars' lays the variable. In a bare row this is a premise. The card (YtmfladkimmnccaaDoorCards.lean) ties it to the program's text. -/
def laid_lathe_sched_wave {H : Type} : DataW H := .agg [.lit (.int .u32 3231574502), .lit (.int .u32 1082253560), .lit (.int .u32 3215649252), .lit (.int .u32 1047591555), .lit (.int .u32 3167971577), .lit (.int .u32 989653445)]

/-- 'lathelaw14.SchedValues': WHATEVER THE INPUT: true; the input reads as it did. -/
def schedValuesSpec : ChangeSpec := { name := "schedValues", fn := fun _ => fun
  | [d1, d2] => { results := [.lit (.bool true)], args := [d1, d2] }
  | _ => none }
def schedValuesRow : OpenClaim := { program := "ytmfladkimmnccaadoor", sum := "906266846744159c7b9fdc083013726fe90e8f8a6edf575e8fdeab35e925d412", func := "lathe/lathelaw14.SchedValues", spec := "schedValues", inPlace := ["math.Float32frombits", "math.Float32bits", "math.sqrt"], unfollowed := true, recurses := true, named := ["lathe/sched.wave"], loops := true, apart := false, laid := [("lathe/sched.wave", laid_lathe_sched_wave)] }
def SchedValuesSaid : Prop := schedValuesRow.holds Tryd.pinned (OpenSpec.ofChange schedValuesSpec)

/-- ITS FALSE NEIGHBOUR: 'it returns false'. Refute it at one input. -/
def schedValuesWrong : ChangeSpec := { name := "schedValues", fn := fun _ => fun
  | [d1, d2] => { results := [.lit (.bool false)], args := [d1, d2] }
  | _ => none }
def SchedValuesWrongFalsely : Prop := schedValuesRow.holds Tryd.pinned (OpenSpec.ofChange schedValuesWrong)

/-- 'lathelaw14.SchedWaves': WHATEVER THE INPUT: true; the input reads as it did. -/
def schedWavesSpec : ChangeSpec := { name := "schedWaves", fn := fun _ => fun
  | [d] => { results := [.lit (.bool true)], args := [d] }
  | _ => none }
def schedWavesRow : OpenClaim := { program := "ytmfladkimmnccaadoor", sum := "906266846744159c7b9fdc083013726fe90e8f8a6edf575e8fdeab35e925d412", func := "lathe/lathelaw14.SchedWaves", spec := "schedWaves", inPlace := ["math.Float32frombits", "math.Float32bits", "math.sqrt"], unfollowed := true, recurses := true, named := ["lathe/sched.wave"], apart := false, laid := [("lathe/sched.wave", laid_lathe_sched_wave)] }
def SchedWavesSaid : Prop := schedWavesRow.holds Tryd.pinned (OpenSpec.ofChange schedWavesSpec)

/-- ITS FALSE NEIGHBOUR: 'it returns false'. Refute it at one input. -/
def schedWavesWrong : ChangeSpec := { name := "schedWaves", fn := fun _ => fun
  | [d] => { results := [.lit (.bool false)], args := [d] }
  | _ => none }
def SchedWavesWrongFalsely : Prop := schedWavesRow.holds Tryd.pinned (OpenSpec.ofChange schedWavesWrong)

/-- 'lathelaw14.SchedWave': WHATEVER THE INPUT: true; the input reads as it did. -/
def schedWaveSpec : ChangeSpec := { name := "schedWave", fn := fun _ => fun
  | [d] => { results := [.lit (.bool true)], args := [d] }
  | _ => none }
def schedWaveRow : OpenClaim := { program := "ytmfladkimmnccaadoor", sum := "906266846744159c7b9fdc083013726fe90e8f8a6edf575e8fdeab35e925d412", func := "lathe/lathelaw14.SchedWave", spec := "schedWave", inPlace := ["math.Float32frombits", "math.Float32bits", "math.sqrt"], unfollowed := true, recurses := true, named := ["lathe/sched.wave"], apart := false, laid := [("lathe/sched.wave", laid_lathe_sched_wave)] }
def SchedWaveSaid : Prop := schedWaveRow.holds Tryd.pinned (OpenSpec.ofChange schedWaveSpec)

/-- ITS FALSE NEIGHBOUR: 'it returns false'. Refute it at one input. -/
def schedWaveWrong : ChangeSpec := { name := "schedWave", fn := fun _ => fun
  | [d] => { results := [.lit (.bool false)], args := [d] }
  | _ => none }
def SchedWaveWrongFalsely : Prop := schedWaveRow.holds Tryd.pinned (OpenSpec.ofChange schedWaveWrong)

/-- 'lathelaw14.SchedDown': WHATEVER THE INPUT: true; the input reads as it did. -/
def schedDownSpec : ChangeSpec := { name := "schedDown", fn := fun _ => fun
  | [d] => { results := [.lit (.bool true)], args := [d] }
  | _ => none }
def schedDownRow : OpenClaim := { program := "ytmfladkimmnccaadoor", sum := "906266846744159c7b9fdc083013726fe90e8f8a6edf575e8fdeab35e925d412", func := "lathe/lathelaw14.SchedDown", spec := "schedDown", inPlace := ["math.Float32frombits", "math.Float32bits", "math.sqrt"], unfollowed := true, recurses := true, named := ["lathe/sched.wave"], apart := false, laid := [("lathe/sched.wave", laid_lathe_sched_wave)] }
def SchedDownSaid : Prop := schedDownRow.holds Tryd.pinned (OpenSpec.ofChange schedDownSpec)

/-- ITS FALSE NEIGHBOUR: 'it returns false'. Refute it at one input. -/
def schedDownWrong : ChangeSpec := { name := "schedDown", fn := fun _ => fun
  | [d] => { results := [.lit (.bool false)], args := [d] }
  | _ => none }
def SchedDownWrongFalsely : Prop := schedDownRow.holds Tryd.pinned (OpenSpec.ofChange schedDownWrong)

/-- 'lathelaw14.SchedJoins': WHATEVER THE INPUT: true; the input reads as it did. -/
def schedJoinsSpec : ChangeSpec := { name := "schedJoins", fn := fun _ => fun
  | [d1, d2] => { results := [.lit (.bool true)], args := [d1, d2] }
  | _ => none }
def schedJoinsRow : OpenClaim := { program := "ytmfladkimmnccaadoor", sum := "906266846744159c7b9fdc083013726fe90e8f8a6edf575e8fdeab35e925d412", func := "lathe/lathelaw14.SchedJoins", spec := "schedJoins", inPlace := ["math.Float32frombits", "math.Float32bits", "math.sqrt"], unfollowed := true, recurses := true, named := ["lathe/sched.wave"], loops := true, apart := false, laid := [("lathe/sched.wave", laid_lathe_sched_wave)] }
def SchedJoinsSaid : Prop := schedJoinsRow.holds Tryd.pinned (OpenSpec.ofChange schedJoinsSpec)

/-- ITS FALSE NEIGHBOUR: 'it returns false'. Refute it at one input. -/
def schedJoinsWrong : ChangeSpec := { name := "schedJoins", fn := fun _ => fun
  | [d1, d2] => { results := [.lit (.bool false)], args := [d1, d2] }
  | _ => none }
def SchedJoinsWrongFalsely : Prop := schedJoinsRow.holds Tryd.pinned (OpenSpec.ofChange schedJoinsWrong)

/-- 'lathelaw14.SchedPairs': WHATEVER THE INPUT: true; the input reads as it did. -/
def schedPairsSpec : ChangeSpec := { name := "schedPairs", fn := fun _ => fun
  | [d1, d2, d3] => { results := [.lit (.bool true)], args := [d1, d2, d3] }
  | _ => none }
def schedPairsRow : OpenClaim := { program := "ytmfladkimmnccaadoor", sum := "906266846744159c7b9fdc083013726fe90e8f8a6edf575e8fdeab35e925d412", func := "lathe/lathelaw14.SchedPairs", spec := "schedPairs", inPlace := ["math.Float32frombits", "math.Float32bits", "math.sqrt"], unfollowed := true, recurses := true, named := ["lathe/sched.wave"], loops := true, apart := false, laid := [("lathe/sched.wave", laid_lathe_sched_wave)] }
def SchedPairsSaid : Prop := schedPairsRow.holds Tryd.pinned (OpenSpec.ofChange schedPairsSpec)

/-- ITS FALSE NEIGHBOUR: 'it returns false'. Refute it at one input. -/
def schedPairsWrong : ChangeSpec := { name := "schedPairs", fn := fun _ => fun
  | [d1, d2, d3] => { results := [.lit (.bool false)], args := [d1, d2, d3] }
  | _ => none }
def SchedPairsWrongFalsely : Prop := schedPairsRow.holds Tryd.pinned (OpenSpec.ofChange schedPairsWrong)

/-- 'lathelaw14.SchedOnes': WHATEVER THE INPUT: true; the input reads as it did. -/
def schedOnesSpec : ChangeSpec := { name := "schedOnes", fn := fun _ => fun
  | [d1, d2] => { results := [.lit (.bool true)], args := [d1, d2] }
  | _ => none }
def schedOnesRow : OpenClaim := { program := "ytmfladkimmnccaadoor", sum := "906266846744159c7b9fdc083013726fe90e8f8a6edf575e8fdeab35e925d412", func := "lathe/lathelaw14.SchedOnes", spec := "schedOnes", inPlace := ["math.Float32frombits", "math.Float32bits", "math.sqrt"], unfollowed := true, recurses := true, named := ["lathe/sched.wave"], loops := true, apart := false, laid := [("lathe/sched.wave", laid_lathe_sched_wave)] }
def SchedOnesSaid : Prop := schedOnesRow.holds Tryd.pinned (OpenSpec.ofChange schedOnesSpec)

/-- ITS FALSE NEIGHBOUR: 'it returns false'. Refute it at one input. -/
def schedOnesWrong : ChangeSpec := { name := "schedOnes", fn := fun _ => fun
  | [d1, d2] => { results := [.lit (.bool false)], args := [d1, d2] }
  | _ => none }
def SchedOnesWrongFalsely : Prop := schedOnesRow.holds Tryd.pinned (OpenSpec.ofChange schedOnesWrong)

/- THE SECOND FORM. 'bulk': how many values and letters a reading holds, each counted each time it is reached (what is shared counts as often as it is met; a slice's spare places count too). A statement '..UptoSaid' is the law's where the arguments, and the package variables that the reading takes, are together of bulk at most 1048576: NARROWER than '..Said'. Prove '..Said' where nothing that the law and all that it calls make is longer than what came in: it says more and counts as full. Else prove '..UptoSaid'. A law counts once. -/
mutual
def uptoBulk {H : Type} : DataW H → Nat
  | .lit (.string bytes) => bytes.length + 1
  | .lit _ => 1
  | .nil => 1
  | .ptr d => uptoBulk d + 1
  | .slice elems spare => uptoBulkAll elems + uptoBulkAll spare + 1
  | .agg parts => uptoBulkAll parts + 1
  | .iface _ d => uptoBulk d + 1
  | .map entries => uptoBulkEntries entries + 1
  | .held _ => 1
def uptoBulkAll {H : Type} : List (DataW H) → Nat
  | [] => 0
  | d :: r => uptoBulk d + uptoBulkAll r
def uptoBulkEntries {H : Type} : List (Lit × DataW H) → Nat
  | [] => 0
  | x :: r => uptoBulkEntry x + uptoBulkEntries r
def uptoBulkEntry {H : Type} : Lit × DataW H → Nat
  | (.string bytes, d) => bytes.length + uptoBulk d + 1
  | (_, d) => uptoBulk d + 1
 end
def uptoSmall : (H : Type) → List (DataW H) → Bool := fun _ ds => decide (uptoBulkAll ds ≤ 1048576)
def OpenSpec.upto (s : _root_.Go.ChangeSpec) : _root_.Go.OpenSpec := { _root_.Go.OpenSpec.ofChange s with cond := some uptoSmall }

/-- 'lathelaw14.SchedValues', WHERE WHAT IT READS IS OF BULK AT MOST 1048576: true; the input reads as it did. -/
def schedValuesUptoRow : OpenClaim := { program := "ytmfladkimmnccaadoor", sum := "906266846744159c7b9fdc083013726fe90e8f8a6edf575e8fdeab35e925d412", func := "lathe/lathelaw14.SchedValues", spec := "schedValues", inPlace := ["math.Float32frombits", "math.Float32bits", "math.sqrt"], unfollowed := true, recurses := true, named := ["lathe/sched.wave"], loops := true, apart := false, laid := [("lathe/sched.wave", laid_lathe_sched_wave)], narrowed := true }
def SchedValuesUptoSaid : Prop := schedValuesUptoRow.holds Tryd.pinned (OpenSpec.upto schedValuesSpec)

/-- 'lathelaw14.SchedWaves', WHERE WHAT IT READS IS OF BULK AT MOST 1048576: true; the input reads as it did. -/
def schedWavesUptoRow : OpenClaim := { program := "ytmfladkimmnccaadoor", sum := "906266846744159c7b9fdc083013726fe90e8f8a6edf575e8fdeab35e925d412", func := "lathe/lathelaw14.SchedWaves", spec := "schedWaves", inPlace := ["math.Float32frombits", "math.Float32bits", "math.sqrt"], unfollowed := true, recurses := true, named := ["lathe/sched.wave"], apart := false, laid := [("lathe/sched.wave", laid_lathe_sched_wave)], narrowed := true }
def SchedWavesUptoSaid : Prop := schedWavesUptoRow.holds Tryd.pinned (OpenSpec.upto schedWavesSpec)

/-- 'lathelaw14.SchedWave', WHERE WHAT IT READS IS OF BULK AT MOST 1048576: true; the input reads as it did. -/
def schedWaveUptoRow : OpenClaim := { program := "ytmfladkimmnccaadoor", sum := "906266846744159c7b9fdc083013726fe90e8f8a6edf575e8fdeab35e925d412", func := "lathe/lathelaw14.SchedWave", spec := "schedWave", inPlace := ["math.Float32frombits", "math.Float32bits", "math.sqrt"], unfollowed := true, recurses := true, named := ["lathe/sched.wave"], apart := false, laid := [("lathe/sched.wave", laid_lathe_sched_wave)], narrowed := true }
def SchedWaveUptoSaid : Prop := schedWaveUptoRow.holds Tryd.pinned (OpenSpec.upto schedWaveSpec)

/-- 'lathelaw14.SchedDown', WHERE WHAT IT READS IS OF BULK AT MOST 1048576: true; the input reads as it did. -/
def schedDownUptoRow : OpenClaim := { program := "ytmfladkimmnccaadoor", sum := "906266846744159c7b9fdc083013726fe90e8f8a6edf575e8fdeab35e925d412", func := "lathe/lathelaw14.SchedDown", spec := "schedDown", inPlace := ["math.Float32frombits", "math.Float32bits", "math.sqrt"], unfollowed := true, recurses := true, named := ["lathe/sched.wave"], apart := false, laid := [("lathe/sched.wave", laid_lathe_sched_wave)], narrowed := true }
def SchedDownUptoSaid : Prop := schedDownUptoRow.holds Tryd.pinned (OpenSpec.upto schedDownSpec)

/-- 'lathelaw14.SchedJoins', WHERE WHAT IT READS IS OF BULK AT MOST 1048576: true; the input reads as it did. -/
def schedJoinsUptoRow : OpenClaim := { program := "ytmfladkimmnccaadoor", sum := "906266846744159c7b9fdc083013726fe90e8f8a6edf575e8fdeab35e925d412", func := "lathe/lathelaw14.SchedJoins", spec := "schedJoins", inPlace := ["math.Float32frombits", "math.Float32bits", "math.sqrt"], unfollowed := true, recurses := true, named := ["lathe/sched.wave"], loops := true, apart := false, laid := [("lathe/sched.wave", laid_lathe_sched_wave)], narrowed := true }
def SchedJoinsUptoSaid : Prop := schedJoinsUptoRow.holds Tryd.pinned (OpenSpec.upto schedJoinsSpec)

/-- 'lathelaw14.SchedPairs', WHERE WHAT IT READS IS OF BULK AT MOST 1048576: true; the input reads as it did. -/
def schedPairsUptoRow : OpenClaim := { program := "ytmfladkimmnccaadoor", sum := "906266846744159c7b9fdc083013726fe90e8f8a6edf575e8fdeab35e925d412", func := "lathe/lathelaw14.SchedPairs", spec := "schedPairs", inPlace := ["math.Float32frombits", "math.Float32bits", "math.sqrt"], unfollowed := true, recurses := true, named := ["lathe/sched.wave"], loops := true, apart := false, laid := [("lathe/sched.wave", laid_lathe_sched_wave)], narrowed := true }
def SchedPairsUptoSaid : Prop := schedPairsUptoRow.holds Tryd.pinned (OpenSpec.upto schedPairsSpec)

/-- 'lathelaw14.SchedOnes', WHERE WHAT IT READS IS OF BULK AT MOST 1048576: true; the input reads as it did. -/
def schedOnesUptoRow : OpenClaim := { program := "ytmfladkimmnccaadoor", sum := "906266846744159c7b9fdc083013726fe90e8f8a6edf575e8fdeab35e925d412", func := "lathe/lathelaw14.SchedOnes", spec := "schedOnes", inPlace := ["math.Float32frombits", "math.Float32bits", "math.sqrt"], unfollowed := true, recurses := true, named := ["lathe/sched.wave"], loops := true, apart := false, laid := [("lathe/sched.wave", laid_lathe_sched_wave)], narrowed := true }
def SchedOnesUptoSaid : Prop := schedOnesUptoRow.holds Tryd.pinned (OpenSpec.upto schedOnesSpec)

end Rows
end Go.Proofs.YtmfladkimmnccaaDoor
