/-
  No cell of these rows narrows 'for every input' (looked for: loops, veiled, ifaces, maps, wideKeys, modest, calm, conditions, laid).
  DERIVED. THE GIVEN ROWS OF THIS SEAT. 12 by the template 'for every input the law returns true; each argument reads behind the call as it read before'; 0 by the template 'total and deterministic' (their statements: YtmfladkimmnccaaTotals.lean).
  GIVEN WITH THE SEED: the statements are not yours to turn. If you find one false, say at which input.
  Laid BY PROGRAM, IN A SANDBOX (cutbox-rows.mjs): the forced cells as the released guide's own fill.sh prints them over the translation dcb8f184019660e4… (all of the seat's roots in one cut). By AI agents, Wed Nov 11 2026. No macro, syntax, notation, axiom, sorry.
-/
import Derived.Test.YtmfladkimmnccaaChecked
import GoSem.Claim
import GoSem.ClaimJoined
import GoSem.ClaimMapViews
import Derived.JoinedTies
import Derived.KernelRfl
namespace Go.Proofs.Ytmfladkimmnccaa
/- THE CELL 'sum', in the pinned program and in every row, IS THE sha256 OF THE DUMP (.gsa) THAT YtmfladkimmnccaaProg.lean LOADS. Nothing in Lean hashes anything: it is a label: what it is worth is what the hold of that sum in a sandbox is worth. -/
noncomputable def Try.pinned : Pinned := { name := "ytmfladkimmnccaa", sum := "dcb8f184019660e4187d9fa692184924737fd6326a2ba335edb3d9663e96ac14", checked := Try.checked }
namespace Rows
def none {H : Type} : Left H := { results := [], args := [] }

/-- 'lathelaw06.LexScans': WHATEVER THE INPUT: true; the input reads as it did. -/
def lexScansSpec : ChangeSpec := { name := "lexScans", fn := fun _ => fun
  | [d] => { results := [.lit (.bool true)], args := [d] }
  | _ => none }
def lexScansRow : OpenClaim := { program := "ytmfladkimmnccaa", sum := "dcb8f184019660e4187d9fa692184924737fd6326a2ba335edb3d9663e96ac14", func := "lathe/lathelaw06.LexScans", spec := "lexScans", inPlace := ["internal/bytealg.IndexByteString"], unfollowed := true, recurses := true, apart := false }
def LexScansSaid : Prop := lexScansRow.holds Try.pinned (OpenSpec.ofChange lexScansSpec)

/-- ITS FALSE NEIGHBOUR: 'it returns false'. Refute it at one input. -/
def lexScansWrong : ChangeSpec := { name := "lexScans", fn := fun _ => fun
  | [d] => { results := [.lit (.bool false)], args := [d] }
  | _ => none }
def LexScansWrongFalsely : Prop := lexScansRow.holds Try.pinned (OpenSpec.ofChange lexScansWrong)

/-- 'lathelaw06.LexLies': WHATEVER THE INPUT: true; the input reads as it did. -/
def lexLiesSpec : ChangeSpec := { name := "lexLies", fn := fun _ => fun
  | [d] => { results := [.lit (.bool true)], args := [d] }
  | _ => none }
def lexLiesRow : OpenClaim := { program := "ytmfladkimmnccaa", sum := "dcb8f184019660e4187d9fa692184924737fd6326a2ba335edb3d9663e96ac14", func := "lathe/lathelaw06.LexLies", spec := "lexLies", inPlace := ["internal/bytealg.IndexByteString"], unfollowed := true, recurses := true, apart := false }
def LexLiesSaid : Prop := lexLiesRow.holds Try.pinned (OpenSpec.ofChange lexLiesSpec)

/-- ITS FALSE NEIGHBOUR: 'it returns false'. Refute it at one input. -/
def lexLiesWrong : ChangeSpec := { name := "lexLies", fn := fun _ => fun
  | [d] => { results := [.lit (.bool false)], args := [d] }
  | _ => none }
def LexLiesWrongFalsely : Prop := lexLiesRow.holds Try.pinned (OpenSpec.ofChange lexLiesWrong)

/-- 'lathelaw06.LexAhead': WHATEVER THE INPUT: true; the input reads as it did. -/
def lexAheadSpec : ChangeSpec := { name := "lexAhead", fn := fun _ => fun
  | [d1, d2] => { results := [.lit (.bool true)], args := [d1, d2] }
  | _ => none }
def lexAheadRow : OpenClaim := { program := "ytmfladkimmnccaa", sum := "dcb8f184019660e4187d9fa692184924737fd6326a2ba335edb3d9663e96ac14", func := "lathe/lathelaw06.LexAhead", spec := "lexAhead", inPlace := ["internal/bytealg.IndexByteString"], unfollowed := true, recurses := true, apart := false }
def LexAheadSaid : Prop := lexAheadRow.holds Try.pinned (OpenSpec.ofChange lexAheadSpec)

/-- ITS FALSE NEIGHBOUR: 'it returns false'. Refute it at one input. -/
def lexAheadWrong : ChangeSpec := { name := "lexAhead", fn := fun _ => fun
  | [d1, d2] => { results := [.lit (.bool false)], args := [d1, d2] }
  | _ => none }
def LexAheadWrongFalsely : Prop := lexAheadRow.holds Try.pinned (OpenSpec.ofChange lexAheadWrong)

/-- 'lathelaw06.LexOwn': WHATEVER THE INPUT: true; the input reads as it did. -/
def lexOwnSpec : ChangeSpec := { name := "lexOwn", fn := fun _ => fun
  | [d] => { results := [.lit (.bool true)], args := [d] }
  | _ => none }
def lexOwnRow : OpenClaim := { program := "ytmfladkimmnccaa", sum := "dcb8f184019660e4187d9fa692184924737fd6326a2ba335edb3d9663e96ac14", func := "lathe/lathelaw06.LexOwn", spec := "lexOwn", inPlace := ["internal/bytealg.IndexByteString"], unfollowed := true, recurses := true, apart := false }
def LexOwnSaid : Prop := lexOwnRow.holds Try.pinned (OpenSpec.ofChange lexOwnSpec)

/-- ITS FALSE NEIGHBOUR: 'it returns false'. Refute it at one input. -/
def lexOwnWrong : ChangeSpec := { name := "lexOwn", fn := fun _ => fun
  | [d] => { results := [.lit (.bool false)], args := [d] }
  | _ => none }
def LexOwnWrongFalsely : Prop := lexOwnRow.holds Try.pinned (OpenSpec.ofChange lexOwnWrong)

/-- 'lathelaw06.LexShows': WHATEVER THE INPUT: true; the input reads as it did. -/
def lexShowsSpec : ChangeSpec := { name := "lexShows", fn := fun _ => fun
  | [d] => { results := [.lit (.bool true)], args := [d] }
  | _ => none }
def lexShowsRow : OpenClaim := { program := "ytmfladkimmnccaa", sum := "dcb8f184019660e4187d9fa692184924737fd6326a2ba335edb3d9663e96ac14", func := "lathe/lathelaw06.LexShows", spec := "lexShows", inPlace := ["internal/abi.NoEscape", "internal/bytealg.MakeNoZero", "internal/bytealg.IndexByteString"], unfollowed := true, recurses := true, apart := false }
def LexShowsSaid : Prop := lexShowsRow.holds Try.pinned (OpenSpec.ofChange lexShowsSpec)

/-- ITS FALSE NEIGHBOUR: 'it returns false'. Refute it at one input. -/
def lexShowsWrong : ChangeSpec := { name := "lexShows", fn := fun _ => fun
  | [d] => { results := [.lit (.bool false)], args := [d] }
  | _ => none }
def LexShowsWrongFalsely : Prop := lexShowsRow.holds Try.pinned (OpenSpec.ofChange lexShowsWrong)

/-- 'lathelaw06.LexBack': WHATEVER THE INPUT: true; the input reads as it did. -/
def lexBackSpec : ChangeSpec := { name := "lexBack", fn := fun _ => fun
  | [d] => { results := [.lit (.bool true)], args := [d] }
  | _ => none }
def lexBackRow : OpenClaim := { program := "ytmfladkimmnccaa", sum := "dcb8f184019660e4187d9fa692184924737fd6326a2ba335edb3d9663e96ac14", func := "lathe/lathelaw06.LexBack", spec := "lexBack", inPlace := ["internal/bytealg.IndexByteString", "internal/abi.NoEscape", "internal/bytealg.MakeNoZero"], unfollowed := true, recurses := true, apart := false }
def LexBackSaid : Prop := lexBackRow.holds Try.pinned (OpenSpec.ofChange lexBackSpec)

/-- ITS FALSE NEIGHBOUR: 'it returns false'. Refute it at one input. -/
def lexBackWrong : ChangeSpec := { name := "lexBack", fn := fun _ => fun
  | [d] => { results := [.lit (.bool false)], args := [d] }
  | _ => none }
def LexBackWrongFalsely : Prop := lexBackRow.holds Try.pinned (OpenSpec.ofChange lexBackWrong)

/-- 'lathelaw05.VectorApplies': WHATEVER THE INPUT: true; the input reads as it did. -/
def vectorAppliesSpec : ChangeSpec := { name := "vectorApplies", fn := fun _ => fun
  | [d1, d2] => { results := [.lit (.bool true)], args := [d1, d2] }
  | _ => none }
def vectorAppliesRow : OpenClaim := { program := "ytmfladkimmnccaa", sum := "dcb8f184019660e4187d9fa692184924737fd6326a2ba335edb3d9663e96ac14", func := "lathe/lathelaw05.VectorApplies", spec := "vectorApplies", inPlace := ["math.Float32frombits", "math.sqrt", "math.Float32bits"], unfollowed := true, recurses := true, apart := false }
def VectorAppliesSaid : Prop := vectorAppliesRow.holds Try.pinned (OpenSpec.ofChange vectorAppliesSpec)

/-- ITS FALSE NEIGHBOUR: 'it returns false'. Refute it at one input. -/
def vectorAppliesWrong : ChangeSpec := { name := "vectorApplies", fn := fun _ => fun
  | [d1, d2] => { results := [.lit (.bool false)], args := [d1, d2] }
  | _ => none }
def VectorAppliesWrongFalsely : Prop := vectorAppliesRow.holds Try.pinned (OpenSpec.ofChange vectorAppliesWrong)

/-- 'lathelaw05.VectorNorms': WHATEVER THE INPUT: true; the input reads as it did. -/
def vectorNormsSpec : ChangeSpec := { name := "vectorNorms", fn := fun _ => fun
  | [d] => { results := [.lit (.bool true)], args := [d] }
  | _ => none }
def vectorNormsRow : OpenClaim := { program := "ytmfladkimmnccaa", sum := "dcb8f184019660e4187d9fa692184924737fd6326a2ba335edb3d9663e96ac14", func := "lathe/lathelaw05.VectorNorms", spec := "vectorNorms", inPlace := ["math.Float32frombits", "math.Float32bits", "math.sqrt"], unfollowed := true, recurses := true, apart := false }
def VectorNormsSaid : Prop := vectorNormsRow.holds Try.pinned (OpenSpec.ofChange vectorNormsSpec)

/-- ITS FALSE NEIGHBOUR: 'it returns false'. Refute it at one input. -/
def vectorNormsWrong : ChangeSpec := { name := "vectorNorms", fn := fun _ => fun
  | [d] => { results := [.lit (.bool false)], args := [d] }
  | _ => none }
def VectorNormsWrongFalsely : Prop := vectorNormsRow.holds Try.pinned (OpenSpec.ofChange vectorNormsWrong)

/-- 'lathelaw05.VectorCuts': WHATEVER THE INPUT: true; the input reads as it did. -/
def vectorCutsSpec : ChangeSpec := { name := "vectorCuts", fn := fun _ => fun
  | [d] => { results := [.lit (.bool true)], args := [d] }
  | _ => none }
def vectorCutsRow : OpenClaim := { program := "ytmfladkimmnccaa", sum := "dcb8f184019660e4187d9fa692184924737fd6326a2ba335edb3d9663e96ac14", func := "lathe/lathelaw05.VectorCuts", spec := "vectorCuts", inPlace := ["math.Float32frombits", "math.Float32bits", "math.sqrt"], unfollowed := true, recurses := true, apart := false }
def VectorCutsSaid : Prop := vectorCutsRow.holds Try.pinned (OpenSpec.ofChange vectorCutsSpec)

/-- ITS FALSE NEIGHBOUR: 'it returns false'. Refute it at one input. -/
def vectorCutsWrong : ChangeSpec := { name := "vectorCuts", fn := fun _ => fun
  | [d] => { results := [.lit (.bool false)], args := [d] }
  | _ => none }
def VectorCutsWrongFalsely : Prop := vectorCutsRow.holds Try.pinned (OpenSpec.ofChange vectorCutsWrong)

/-- 'lathelaw05.VectorSums': WHATEVER THE INPUT: true; the input reads as it did. -/
def vectorSumsSpec : ChangeSpec := { name := "vectorSums", fn := fun _ => fun
  | [d1, d2] => { results := [.lit (.bool true)], args := [d1, d2] }
  | _ => none }
def vectorSumsRow : OpenClaim := { program := "ytmfladkimmnccaa", sum := "dcb8f184019660e4187d9fa692184924737fd6326a2ba335edb3d9663e96ac14", func := "lathe/lathelaw05.VectorSums", spec := "vectorSums", inPlace := ["math.Float32frombits", "math.Float32bits", "math.sqrt"], unfollowed := true, recurses := true, apart := false }
def VectorSumsSaid : Prop := vectorSumsRow.holds Try.pinned (OpenSpec.ofChange vectorSumsSpec)

/-- ITS FALSE NEIGHBOUR: 'it returns false'. Refute it at one input. -/
def vectorSumsWrong : ChangeSpec := { name := "vectorSums", fn := fun _ => fun
  | [d1, d2] => { results := [.lit (.bool false)], args := [d1, d2] }
  | _ => none }
def VectorSumsWrongFalsely : Prop := vectorSumsRow.holds Try.pinned (OpenSpec.ofChange vectorSumsWrong)

/-- 'lathelaw05.VectorOwn': WHATEVER THE INPUT: true; the input reads as it did. -/
def vectorOwnSpec : ChangeSpec := { name := "vectorOwn", fn := fun _ => fun
  | [d] => { results := [.lit (.bool true)], args := [d] }
  | _ => none }
def vectorOwnRow : OpenClaim := { program := "ytmfladkimmnccaa", sum := "dcb8f184019660e4187d9fa692184924737fd6326a2ba335edb3d9663e96ac14", func := "lathe/lathelaw05.VectorOwn", spec := "vectorOwn", inPlace := ["math.Float32frombits", "math.sqrt", "math.Float32bits"], unfollowed := true, recurses := true, apart := false }
def VectorOwnSaid : Prop := vectorOwnRow.holds Try.pinned (OpenSpec.ofChange vectorOwnSpec)

/-- ITS FALSE NEIGHBOUR: 'it returns false'. Refute it at one input. -/
def vectorOwnWrong : ChangeSpec := { name := "vectorOwn", fn := fun _ => fun
  | [d] => { results := [.lit (.bool false)], args := [d] }
  | _ => none }
def VectorOwnWrongFalsely : Prop := vectorOwnRow.holds Try.pinned (OpenSpec.ofChange vectorOwnWrong)

/-- 'lathelaw05.VectorEnds': WHATEVER THE INPUT: true; the input reads as it did. -/
def vectorEndsSpec : ChangeSpec := { name := "vectorEnds", fn := fun _ => fun
  | [d1, d2, d3] => { results := [.lit (.bool true)], args := [d1, d2, d3] }
  | _ => none }
def vectorEndsRow : OpenClaim := { program := "ytmfladkimmnccaa", sum := "dcb8f184019660e4187d9fa692184924737fd6326a2ba335edb3d9663e96ac14", func := "lathe/lathelaw05.VectorEnds", spec := "vectorEnds", inPlace := ["math.Float32frombits", "math.Float32bits", "math.sqrt"], unfollowed := true, recurses := true, apart := false }
def VectorEndsSaid : Prop := vectorEndsRow.holds Try.pinned (OpenSpec.ofChange vectorEndsSpec)

/-- ITS FALSE NEIGHBOUR: 'it returns false'. Refute it at one input. -/
def vectorEndsWrong : ChangeSpec := { name := "vectorEnds", fn := fun _ => fun
  | [d1, d2, d3] => { results := [.lit (.bool false)], args := [d1, d2, d3] }
  | _ => none }
def VectorEndsWrongFalsely : Prop := vectorEndsRow.holds Try.pinned (OpenSpec.ofChange vectorEndsWrong)

/- THE SECOND FORM. 'bulk': how many values and letters a reading holds, each counted each time it is reached (what is shared counts as often as it is met; a slice's spare places count too). A statement '..UptoSaid' is the law's where the arguments, and the package variables that the reading takes, are together of bulk at most 1048576: NARROWER than '..Said'. Prove '..Said' where nothing that the law and all that it calls make is longer than what came in: it says more and counts as full. Else prove '..UptoSaid'. A law counts once. -/
mutual
def uptoBulk {H : Type} : DataW H → Nat
  | .lit (.string bytes) => bytes.length + 1
  | .lit _ => 1
  | .nil => 1
  | .ptr d => uptoBulk d + 1
  | .slice elems spare => uptoBulkAll elems + uptoBulkAll spare + 1
  | .agg parts => uptoBulkAll parts + 1
  | .iface _ d => uptoBulk d + 1
  | .map entries => uptoBulkEntries entries + 1
  | .held _ => 1
def uptoBulkAll {H : Type} : List (DataW H) → Nat
  | [] => 0
  | d :: r => uptoBulk d + uptoBulkAll r
def uptoBulkEntries {H : Type} : List (Lit × DataW H) → Nat
  | [] => 0
  | x :: r => uptoBulkEntry x + uptoBulkEntries r
def uptoBulkEntry {H : Type} : Lit × DataW H → Nat
  | (.string bytes, d) => bytes.length + uptoBulk d + 1
  | (_, d) => uptoBulk d + 1
 end
def uptoSmall : (H : Type) → List (DataW H) → Bool := fun _ ds => decide (uptoBulkAll ds ≤ 1048576)
def OpenSpec.upto (s : _root_.Go.ChangeSpec) : _root_.Go.OpenSpec := { _root_.Go.OpenSpec.ofChange s with cond := some uptoSmall }

/-- 'lathelaw06.LexScans', WHERE WHAT IT READS IS OF BULK AT MOST 1048576: true; the input reads as it did. -/
def lexScansUptoRow : OpenClaim := { program := "ytmfladkimmnccaa", sum := "dcb8f184019660e4187d9fa692184924737fd6326a2ba335edb3d9663e96ac14", func := "lathe/lathelaw06.LexScans", spec := "lexScans", inPlace := ["internal/bytealg.IndexByteString"], unfollowed := true, recurses := true, apart := false, narrowed := true }
def LexScansUptoSaid : Prop := lexScansUptoRow.holds Try.pinned (OpenSpec.upto lexScansSpec)

/-- 'lathelaw06.LexLies', WHERE WHAT IT READS IS OF BULK AT MOST 1048576: true; the input reads as it did. -/
def lexLiesUptoRow : OpenClaim := { program := "ytmfladkimmnccaa", sum := "dcb8f184019660e4187d9fa692184924737fd6326a2ba335edb3d9663e96ac14", func := "lathe/lathelaw06.LexLies", spec := "lexLies", inPlace := ["internal/bytealg.IndexByteString"], unfollowed := true, recurses := true, apart := false, narrowed := true }
def LexLiesUptoSaid : Prop := lexLiesUptoRow.holds Try.pinned (OpenSpec.upto lexLiesSpec)

/-- 'lathelaw06.LexAhead', WHERE WHAT IT READS IS OF BULK AT MOST 1048576: true; the input reads as it did. -/
def lexAheadUptoRow : OpenClaim := { program := "ytmfladkimmnccaa", sum := "dcb8f184019660e4187d9fa692184924737fd6326a2ba335edb3d9663e96ac14", func := "lathe/lathelaw06.LexAhead", spec := "lexAhead", inPlace := ["internal/bytealg.IndexByteString"], unfollowed := true, recurses := true, apart := false, narrowed := true }
def LexAheadUptoSaid : Prop := lexAheadUptoRow.holds Try.pinned (OpenSpec.upto lexAheadSpec)

/-- 'lathelaw06.LexOwn', WHERE WHAT IT READS IS OF BULK AT MOST 1048576: true; the input reads as it did. -/
def lexOwnUptoRow : OpenClaim := { program := "ytmfladkimmnccaa", sum := "dcb8f184019660e4187d9fa692184924737fd6326a2ba335edb3d9663e96ac14", func := "lathe/lathelaw06.LexOwn", spec := "lexOwn", inPlace := ["internal/bytealg.IndexByteString"], unfollowed := true, recurses := true, apart := false, narrowed := true }
def LexOwnUptoSaid : Prop := lexOwnUptoRow.holds Try.pinned (OpenSpec.upto lexOwnSpec)

/-- 'lathelaw06.LexShows', WHERE WHAT IT READS IS OF BULK AT MOST 1048576: true; the input reads as it did. -/
def lexShowsUptoRow : OpenClaim := { program := "ytmfladkimmnccaa", sum := "dcb8f184019660e4187d9fa692184924737fd6326a2ba335edb3d9663e96ac14", func := "lathe/lathelaw06.LexShows", spec := "lexShows", inPlace := ["internal/abi.NoEscape", "internal/bytealg.MakeNoZero", "internal/bytealg.IndexByteString"], unfollowed := true, recurses := true, apart := false, narrowed := true }
def LexShowsUptoSaid : Prop := lexShowsUptoRow.holds Try.pinned (OpenSpec.upto lexShowsSpec)

/-- 'lathelaw06.LexBack', WHERE WHAT IT READS IS OF BULK AT MOST 1048576: true; the input reads as it did. -/
def lexBackUptoRow : OpenClaim := { program := "ytmfladkimmnccaa", sum := "dcb8f184019660e4187d9fa692184924737fd6326a2ba335edb3d9663e96ac14", func := "lathe/lathelaw06.LexBack", spec := "lexBack", inPlace := ["internal/bytealg.IndexByteString", "internal/abi.NoEscape", "internal/bytealg.MakeNoZero"], unfollowed := true, recurses := true, apart := false, narrowed := true }
def LexBackUptoSaid : Prop := lexBackUptoRow.holds Try.pinned (OpenSpec.upto lexBackSpec)

/-- 'lathelaw05.VectorApplies', WHERE WHAT IT READS IS OF BULK AT MOST 1048576: true; the input reads as it did. -/
def vectorAppliesUptoRow : OpenClaim := { program := "ytmfladkimmnccaa", sum := "dcb8f184019660e4187d9fa692184924737fd6326a2ba335edb3d9663e96ac14", func := "lathe/lathelaw05.VectorApplies", spec := "vectorApplies", inPlace := ["math.Float32frombits", "math.sqrt", "math.Float32bits"], unfollowed := true, recurses := true, apart := false, narrowed := true }
def VectorAppliesUptoSaid : Prop := vectorAppliesUptoRow.holds Try.pinned (OpenSpec.upto vectorAppliesSpec)

/-- 'lathelaw05.VectorNorms', WHERE WHAT IT READS IS OF BULK AT MOST 1048576: true; the input reads as it did. -/
def vectorNormsUptoRow : OpenClaim := { program := "ytmfladkimmnccaa", sum := "dcb8f184019660e4187d9fa692184924737fd6326a2ba335edb3d9663e96ac14", func := "lathe/lathelaw05.VectorNorms", spec := "vectorNorms", inPlace := ["math.Float32frombits", "math.Float32bits", "math.sqrt"], unfollowed := true, recurses := true, apart := false, narrowed := true }
def VectorNormsUptoSaid : Prop := vectorNormsUptoRow.holds Try.pinned (OpenSpec.upto vectorNormsSpec)

/-- 'lathelaw05.VectorCuts', WHERE WHAT IT READS IS OF BULK AT MOST 1048576: true; the input reads as it did. -/
def vectorCutsUptoRow : OpenClaim := { program := "ytmfladkimmnccaa", sum := "dcb8f184019660e4187d9fa692184924737fd6326a2ba335edb3d9663e96ac14", func := "lathe/lathelaw05.VectorCuts", spec := "vectorCuts", inPlace := ["math.Float32frombits", "math.Float32bits", "math.sqrt"], unfollowed := true, recurses := true, apart := false, narrowed := true }
def VectorCutsUptoSaid : Prop := vectorCutsUptoRow.holds Try.pinned (OpenSpec.upto vectorCutsSpec)

/-- 'lathelaw05.VectorSums', WHERE WHAT IT READS IS OF BULK AT MOST 1048576: true; the input reads as it did. -/
def vectorSumsUptoRow : OpenClaim := { program := "ytmfladkimmnccaa", sum := "dcb8f184019660e4187d9fa692184924737fd6326a2ba335edb3d9663e96ac14", func := "lathe/lathelaw05.VectorSums", spec := "vectorSums", inPlace := ["math.Float32frombits", "math.Float32bits", "math.sqrt"], unfollowed := true, recurses := true, apart := false, narrowed := true }
def VectorSumsUptoSaid : Prop := vectorSumsUptoRow.holds Try.pinned (OpenSpec.upto vectorSumsSpec)

/-- 'lathelaw05.VectorOwn', WHERE WHAT IT READS IS OF BULK AT MOST 1048576: true; the input reads as it did. -/
def vectorOwnUptoRow : OpenClaim := { program := "ytmfladkimmnccaa", sum := "dcb8f184019660e4187d9fa692184924737fd6326a2ba335edb3d9663e96ac14", func := "lathe/lathelaw05.VectorOwn", spec := "vectorOwn", inPlace := ["math.Float32frombits", "math.sqrt", "math.Float32bits"], unfollowed := true, recurses := true, apart := false, narrowed := true }
def VectorOwnUptoSaid : Prop := vectorOwnUptoRow.holds Try.pinned (OpenSpec.upto vectorOwnSpec)

/-- 'lathelaw05.VectorEnds', WHERE WHAT IT READS IS OF BULK AT MOST 1048576: true; the input reads as it did. -/
def vectorEndsUptoRow : OpenClaim := { program := "ytmfladkimmnccaa", sum := "dcb8f184019660e4187d9fa692184924737fd6326a2ba335edb3d9663e96ac14", func := "lathe/lathelaw05.VectorEnds", spec := "vectorEnds", inPlace := ["math.Float32frombits", "math.Float32bits", "math.sqrt"], unfollowed := true, recurses := true, apart := false, narrowed := true }
def VectorEndsUptoSaid : Prop := vectorEndsUptoRow.holds Try.pinned (OpenSpec.upto vectorEndsSpec)

end Rows
end Go.Proofs.Ytmfladkimmnccaa
