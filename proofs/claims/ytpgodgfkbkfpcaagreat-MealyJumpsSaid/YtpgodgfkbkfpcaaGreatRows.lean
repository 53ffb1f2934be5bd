/-
  NARROWER THAN 'FOR EVERY INPUT', by the rows' own cells (each row's printed sentence says how): MealySteps: loops · MealyChains: loops · MealyMasks: loops · MealySplits: loops · MealyNans: loops · MealyClones: loops.
  DERIVED. THE GIVEN ROWS OF THIS SEAT. 7 by the template 'for every input the law returns true; each argument reads behind the call as it read before'; 0 by the template 'total and deterministic' (their statements: YtpgodgfkbkfpcaaGreatTotals.lean).
  GIVEN WITH THE SEED: the statements are not yours to turn. If you find one false, say at which input.
  Laid BY PROGRAM, IN A SANDBOX (cutbox-rows.mjs): the forced cells as the released guide's own fill.sh prints them over the translation 0a4b42952544d322… (all of the seat's roots in one cut). By AI agents, Wed Nov 11 2026. No macro, syntax, notation, axiom, sorry.
-/
import Derived.Test.YtpgodgfkbkfpcaaGreatChecked
import GoSem.Claim
import GoSem.ClaimJoined
import GoSem.ClaimMapViews
import Derived.JoinedTies
import Derived.KernelRfl
namespace Go.Proofs.YtpgodgfkbkfpcaaGreat
/- THE CELL 'sum', in the pinned program and in every row, IS THE sha256 OF THE DUMP (.gsa) THAT YtpgodgfkbkfpcaaGreatProg.lean LOADS. Nothing in Lean hashes anything: it is a label: what it is worth is what the hold of that sum in a sandbox is worth. -/
noncomputable def Tryz.pinned : Pinned := { name := "ytpgodgfkbkfpcaagreat", sum := "0a4b42952544d322506037cd8a6d937c5e8134796a156e7bd821724e406c31ac", checked := Tryz.checked }
namespace Rows
def none {H : Type} : Left H := { results := [], args := [] }

/-- 'lathelaw15.MealySteps': WHATEVER THE INPUT: true; the input reads as it did. -/
def mealyStepsSpec : ChangeSpec := { name := "mealySteps", fn := fun _ => fun
  | [d] => { results := [.lit (.bool true)], args := [d] }
  | _ => none }
def mealyStepsRow : OpenClaim := { program := "ytpgodgfkbkfpcaagreat", sum := "0a4b42952544d322506037cd8a6d937c5e8134796a156e7bd821724e406c31ac", func := "lathe/lathelaw15.MealySteps", spec := "mealySteps", inPlace := ["internal/bytealg.IndexByteString", "math.Float32frombits", "internal/reflectlite.ValueOf", "internal/reflectlite.Swapper", "(internal/reflectlite.Value).Len", "math.Float32bits"], unfollowed := true, recurses := true, loops := true, apart := false }
def MealyStepsSaid : Prop := mealyStepsRow.holds Tryz.pinned (OpenSpec.ofChange mealyStepsSpec)

/-- ITS FALSE NEIGHBOUR: 'it returns false'. Refute it at one input. -/
def mealyStepsWrong : ChangeSpec := { name := "mealySteps", fn := fun _ => fun
  | [d] => { results := [.lit (.bool false)], args := [d] }
  | _ => none }
def MealyStepsWrongFalsely : Prop := mealyStepsRow.holds Tryz.pinned (OpenSpec.ofChange mealyStepsWrong)

/-- 'lathelaw15.MealyJumps': WHATEVER THE INPUT: true; the input reads as it did. -/
def mealyJumpsSpec : ChangeSpec := { name := "mealyJumps", fn := fun _ => fun
  | [d] => { results := [.lit (.bool true)], args := [d] }
  | _ => none }
def mealyJumpsRow : OpenClaim := { program := "ytpgodgfkbkfpcaagreat", sum := "0a4b42952544d322506037cd8a6d937c5e8134796a156e7bd821724e406c31ac", func := "lathe/lathelaw15.MealyJumps", spec := "mealyJumps", inPlace := ["internal/bytealg.IndexByteString", "math.Float32frombits", "internal/reflectlite.ValueOf", "internal/reflectlite.Swapper", "(internal/reflectlite.Value).Len", "math.Float32bits"], unfollowed := true, recurses := true, apart := false }
def MealyJumpsSaid : Prop := mealyJumpsRow.holds Tryz.pinned (OpenSpec.ofChange mealyJumpsSpec)

/-- ITS FALSE NEIGHBOUR: 'it returns false'. Refute it at one input. -/
def mealyJumpsWrong : ChangeSpec := { name := "mealyJumps", fn := fun _ => fun
  | [d] => { results := [.lit (.bool false)], args := [d] }
  | _ => none }
def MealyJumpsWrongFalsely : Prop := mealyJumpsRow.holds Tryz.pinned (OpenSpec.ofChange mealyJumpsWrong)

/-- 'lathelaw15.MealyChains': WHATEVER THE INPUT: true; the input reads as it did. -/
def mealyChainsSpec : ChangeSpec := { name := "mealyChains", fn := fun _ => fun
  | [d1, d2, d3] => { results := [.lit (.bool true)], args := [d1, d2, d3] }
  | _ => none }
def mealyChainsRow : OpenClaim := { program := "ytpgodgfkbkfpcaagreat", sum := "0a4b42952544d322506037cd8a6d937c5e8134796a156e7bd821724e406c31ac", func := "lathe/lathelaw15.MealyChains", spec := "mealyChains", inPlace := ["internal/bytealg.IndexByteString", "math.Float32frombits", "internal/reflectlite.ValueOf", "internal/reflectlite.Swapper", "(internal/reflectlite.Value).Len", "math.Float32bits"], unfollowed := true, recurses := true, loops := true, apart := false }
def MealyChainsSaid : Prop := mealyChainsRow.holds Tryz.pinned (OpenSpec.ofChange mealyChainsSpec)

/-- ITS FALSE NEIGHBOUR: 'it returns false'. Refute it at one input. -/
def mealyChainsWrong : ChangeSpec := { name := "mealyChains", fn := fun _ => fun
  | [d1, d2, d3] => { results := [.lit (.bool false)], args := [d1, d2, d3] }
  | _ => none }
def MealyChainsWrongFalsely : Prop := mealyChainsRow.holds Tryz.pinned (OpenSpec.ofChange mealyChainsWrong)

/-- 'lathelaw15.MealyMasks': WHATEVER THE INPUT: true; the input reads as it did. -/
def mealyMasksSpec : ChangeSpec := { name := "mealyMasks", fn := fun _ => fun
  | [d1, d2, d3] => { results := [.lit (.bool true)], args := [d1, d2, d3] }
  | _ => none }
def mealyMasksRow : OpenClaim := { program := "ytpgodgfkbkfpcaagreat", sum := "0a4b42952544d322506037cd8a6d937c5e8134796a156e7bd821724e406c31ac", func := "lathe/lathelaw15.MealyMasks", spec := "mealyMasks", inPlace := ["internal/bytealg.IndexByteString", "math.Float32frombits", "internal/reflectlite.ValueOf", "internal/reflectlite.Swapper", "(internal/reflectlite.Value).Len", "math.Float32bits"], unfollowed := true, recurses := true, loops := true, apart := false }
def MealyMasksSaid : Prop := mealyMasksRow.holds Tryz.pinned (OpenSpec.ofChange mealyMasksSpec)

/-- ITS FALSE NEIGHBOUR: 'it returns false'. Refute it at one input. -/
def mealyMasksWrong : ChangeSpec := { name := "mealyMasks", fn := fun _ => fun
  | [d1, d2, d3] => { results := [.lit (.bool false)], args := [d1, d2, d3] }
  | _ => none }
def MealyMasksWrongFalsely : Prop := mealyMasksRow.holds Tryz.pinned (OpenSpec.ofChange mealyMasksWrong)

/-- 'lathelaw15.MealySplits': WHATEVER THE INPUT: true; the input reads as it did. -/
def mealySplitsSpec : ChangeSpec := { name := "mealySplits", fn := fun _ => fun
  | [d] => { results := [.lit (.bool true)], args := [d] }
  | _ => none }
def mealySplitsRow : OpenClaim := { program := "ytpgodgfkbkfpcaagreat", sum := "0a4b42952544d322506037cd8a6d937c5e8134796a156e7bd821724e406c31ac", func := "lathe/lathelaw15.MealySplits", spec := "mealySplits", inPlace := ["internal/bytealg.IndexByteString", "math.Float32frombits", "internal/reflectlite.ValueOf", "internal/reflectlite.Swapper", "(internal/reflectlite.Value).Len", "math.Float32bits"], unfollowed := true, recurses := true, loops := true, apart := false }
def MealySplitsSaid : Prop := mealySplitsRow.holds Tryz.pinned (OpenSpec.ofChange mealySplitsSpec)

/-- ITS FALSE NEIGHBOUR: 'it returns false'. Refute it at one input. -/
def mealySplitsWrong : ChangeSpec := { name := "mealySplits", fn := fun _ => fun
  | [d] => { results := [.lit (.bool false)], args := [d] }
  | _ => none }
def MealySplitsWrongFalsely : Prop := mealySplitsRow.holds Tryz.pinned (OpenSpec.ofChange mealySplitsWrong)

/-- 'lathelaw15.MealyNans': WHATEVER THE INPUT: true; the input reads as it did. -/
def mealyNansSpec : ChangeSpec := { name := "mealyNans", fn := fun _ => fun
  | [d1, d2] => { results := [.lit (.bool true)], args := [d1, d2] }
  | _ => none }
def mealyNansRow : OpenClaim := { program := "ytpgodgfkbkfpcaagreat", sum := "0a4b42952544d322506037cd8a6d937c5e8134796a156e7bd821724e406c31ac", func := "lathe/lathelaw15.MealyNans", spec := "mealyNans", inPlace := ["internal/bytealg.IndexByteString", "math.Float32frombits", "internal/reflectlite.ValueOf", "internal/reflectlite.Swapper", "(internal/reflectlite.Value).Len", "math.Float32bits"], unfollowed := true, recurses := true, loops := true, apart := false }
def MealyNansSaid : Prop := mealyNansRow.holds Tryz.pinned (OpenSpec.ofChange mealyNansSpec)

/-- ITS FALSE NEIGHBOUR: 'it returns false'. Refute it at one input. -/
def mealyNansWrong : ChangeSpec := { name := "mealyNans", fn := fun _ => fun
  | [d1, d2] => { results := [.lit (.bool false)], args := [d1, d2] }
  | _ => none }
def MealyNansWrongFalsely : Prop := mealyNansRow.holds Tryz.pinned (OpenSpec.ofChange mealyNansWrong)

/-- 'lathelaw15.MealyClones': WHATEVER THE INPUT: true; the input reads as it did. -/
def mealyClonesSpec : ChangeSpec := { name := "mealyClones", fn := fun _ => fun
  | [d1, d2] => { results := [.lit (.bool true)], args := [d1, d2] }
  | _ => none }
def mealyClonesRow : OpenClaim := { program := "ytpgodgfkbkfpcaagreat", sum := "0a4b42952544d322506037cd8a6d937c5e8134796a156e7bd821724e406c31ac", func := "lathe/lathelaw15.MealyClones", spec := "mealyClones", inPlace := ["internal/bytealg.IndexByteString", "math.Float32frombits", "internal/reflectlite.ValueOf", "internal/reflectlite.Swapper", "(internal/reflectlite.Value).Len", "math.Float32bits"], unfollowed := true, recurses := true, loops := true, apart := false }
def MealyClonesSaid : Prop := mealyClonesRow.holds Tryz.pinned (OpenSpec.ofChange mealyClonesSpec)

/-- ITS FALSE NEIGHBOUR: 'it returns false'. Refute it at one input. -/
def mealyClonesWrong : ChangeSpec := { name := "mealyClones", fn := fun _ => fun
  | [d1, d2] => { results := [.lit (.bool false)], args := [d1, d2] }
  | _ => none }
def MealyClonesWrongFalsely : Prop := mealyClonesRow.holds Tryz.pinned (OpenSpec.ofChange mealyClonesWrong)

/- THE SECOND FORM. 'bulk': how many values and letters a reading holds, each counted each time it is reached (what is shared counts as often as it is met; a slice's spare places count too). A statement '..UptoSaid' is the law's where the arguments, and the package variables that the reading takes, are together of bulk at most 1048576: NARROWER than '..Said'. Prove '..Said' where nothing that the law and all that it calls make is longer than what came in: it says more and counts as full. Else prove '..UptoSaid'. A law counts once. -/
mutual
def uptoBulk {H : Type} : DataW H → Nat
  | .lit (.string bytes) => bytes.length + 1
  | .lit _ => 1
  | .nil => 1
  | .ptr d => uptoBulk d + 1
  | .slice elems spare => uptoBulkAll elems + uptoBulkAll spare + 1
  | .agg parts => uptoBulkAll parts + 1
  | .iface _ d => uptoBulk d + 1
  | .map entries => uptoBulkEntries entries + 1
  | .held _ => 1
def uptoBulkAll {H : Type} : List (DataW H) → Nat
  | [] => 0
  | d :: r => uptoBulk d + uptoBulkAll r
def uptoBulkEntries {H : Type} : List (Lit × DataW H) → Nat
  | [] => 0
  | x :: r => uptoBulkEntry x + uptoBulkEntries r
def uptoBulkEntry {H : Type} : Lit × DataW H → Nat
  | (.string bytes, d) => bytes.length + uptoBulk d + 1
  | (_, d) => uptoBulk d + 1
 end
def uptoSmall : (H : Type) → List (DataW H) → Bool := fun _ ds => decide (uptoBulkAll ds ≤ 1048576)
def OpenSpec.upto (s : _root_.Go.ChangeSpec) : _root_.Go.OpenSpec := { _root_.Go.OpenSpec.ofChange s with cond := some uptoSmall }

/-- 'lathelaw15.MealySteps', WHERE WHAT IT READS IS OF BULK AT MOST 1048576: true; the input reads as it did. -/
def mealyStepsUptoRow : OpenClaim := { program := "ytpgodgfkbkfpcaagreat", sum := "0a4b42952544d322506037cd8a6d937c5e8134796a156e7bd821724e406c31ac", func := "lathe/lathelaw15.MealySteps", spec := "mealySteps", inPlace := ["internal/bytealg.IndexByteString", "math.Float32frombits", "internal/reflectlite.ValueOf", "internal/reflectlite.Swapper", "(internal/reflectlite.Value).Len", "math.Float32bits"], unfollowed := true, recurses := true, loops := true, apart := false, narrowed := true }
def MealyStepsUptoSaid : Prop := mealyStepsUptoRow.holds Tryz.pinned (OpenSpec.upto mealyStepsSpec)

/-- 'lathelaw15.MealyJumps', WHERE WHAT IT READS IS OF BULK AT MOST 1048576: true; the input reads as it did. -/
def mealyJumpsUptoRow : OpenClaim := { program := "ytpgodgfkbkfpcaagreat", sum := "0a4b42952544d322506037cd8a6d937c5e8134796a156e7bd821724e406c31ac", func := "lathe/lathelaw15.MealyJumps", spec := "mealyJumps", inPlace := ["internal/bytealg.IndexByteString", "math.Float32frombits", "internal/reflectlite.ValueOf", "internal/reflectlite.Swapper", "(internal/reflectlite.Value).Len", "math.Float32bits"], unfollowed := true, recurses := true, apart := false, narrowed := true }
def MealyJumpsUptoSaid : Prop := mealyJumpsUptoRow.holds Tryz.pinned (OpenSpec.upto mealyJumpsSpec)

/-- 'lathelaw15.MealyChains', WHERE WHAT IT READS IS OF BULK AT MOST 1048576: true; the input reads as it did. -/
def mealyChainsUptoRow : OpenClaim := { program := "ytpgodgfkbkfpcaagreat", sum := "0a4b42952544d322506037cd8a6d937c5e8134796a156e7bd821724e406c31ac", func := "lathe/lathelaw15.MealyChains", spec := "mealyChains", inPlace := ["internal/bytealg.IndexByteString", "math.Float32frombits", "internal/reflectlite.ValueOf", "internal/reflectlite.Swapper", "(internal/reflectlite.Value).Len", "math.Float32bits"], unfollowed := true, recurses := true, loops := true, apart := false, narrowed := true }
def MealyChainsUptoSaid : Prop := mealyChainsUptoRow.holds Tryz.pinned (OpenSpec.upto mealyChainsSpec)

/-- 'lathelaw15.MealyMasks', WHERE WHAT IT READS IS OF BULK AT MOST 1048576: true; the input reads as it did. -/
def mealyMasksUptoRow : OpenClaim := { program := "ytpgodgfkbkfpcaagreat", sum := "0a4b42952544d322506037cd8a6d937c5e8134796a156e7bd821724e406c31ac", func := "lathe/lathelaw15.MealyMasks", spec := "mealyMasks", inPlace := ["internal/bytealg.IndexByteString", "math.Float32frombits", "internal/reflectlite.ValueOf", "internal/reflectlite.Swapper", "(internal/reflectlite.Value).Len", "math.Float32bits"], unfollowed := true, recurses := true, loops := true, apart := false, narrowed := true }
def MealyMasksUptoSaid : Prop := mealyMasksUptoRow.holds Tryz.pinned (OpenSpec.upto mealyMasksSpec)

/-- 'lathelaw15.MealySplits', WHERE WHAT IT READS IS OF BULK AT MOST 1048576: true; the input reads as it did. -/
def mealySplitsUptoRow : OpenClaim := { program := "ytpgodgfkbkfpcaagreat", sum := "0a4b42952544d322506037cd8a6d937c5e8134796a156e7bd821724e406c31ac", func := "lathe/lathelaw15.MealySplits", spec := "mealySplits", inPlace := ["internal/bytealg.IndexByteString", "math.Float32frombits", "internal/reflectlite.ValueOf", "internal/reflectlite.Swapper", "(internal/reflectlite.Value).Len", "math.Float32bits"], unfollowed := true, recurses := true, loops := true, apart := false, narrowed := true }
def MealySplitsUptoSaid : Prop := mealySplitsUptoRow.holds Tryz.pinned (OpenSpec.upto mealySplitsSpec)

/-- 'lathelaw15.MealyNans', WHERE WHAT IT READS IS OF BULK AT MOST 1048576: true; the input reads as it did. -/
def mealyNansUptoRow : OpenClaim := { program := "ytpgodgfkbkfpcaagreat", sum := "0a4b42952544d322506037cd8a6d937c5e8134796a156e7bd821724e406c31ac", func := "lathe/lathelaw15.MealyNans", spec := "mealyNans", inPlace := ["internal/bytealg.IndexByteString", "math.Float32frombits", "internal/reflectlite.ValueOf", "internal/reflectlite.Swapper", "(internal/reflectlite.Value).Len", "math.Float32bits"], unfollowed := true, recurses := true, loops := true, apart := false, narrowed := true }
def MealyNansUptoSaid : Prop := mealyNansUptoRow.holds Tryz.pinned (OpenSpec.upto mealyNansSpec)

/-- 'lathelaw15.MealyClones', WHERE WHAT IT READS IS OF BULK AT MOST 1048576: true; the input reads as it did. -/
def mealyClonesUptoRow : OpenClaim := { program := "ytpgodgfkbkfpcaagreat", sum := "0a4b42952544d322506037cd8a6d937c5e8134796a156e7bd821724e406c31ac", func := "lathe/lathelaw15.MealyClones", spec := "mealyClones", inPlace := ["internal/bytealg.IndexByteString", "math.Float32frombits", "internal/reflectlite.ValueOf", "internal/reflectlite.Swapper", "(internal/reflectlite.Value).Len", "math.Float32bits"], unfollowed := true, recurses := true, loops := true, apart := false, narrowed := true }
def MealyClonesUptoSaid : Prop := mealyClonesUptoRow.holds Tryz.pinned (OpenSpec.upto mealyClonesSpec)

end Rows
end Go.Proofs.YtpgodgfkbkfpcaaGreat
