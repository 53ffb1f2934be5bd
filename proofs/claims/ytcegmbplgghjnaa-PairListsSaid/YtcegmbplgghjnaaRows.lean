/-
  No cell of these rows narrows 'for every input' (looked for: loops, veiled, ifaces, maps, wideKeys, modest, calm, conditions, laid).
  DERIVED. THE GIVEN ROWS OF THIS SEAT. 20 by the template 'for every input the law returns true; each argument reads behind the call as it read before'; 0 by the template 'total and deterministic' (their statements: YtcegmbplgghjnaaTotals.lean).
  GIVEN WITH THE SEED: the statements are not yours to turn. If you find one false, say at which input.
  Laid BY PROGRAM, IN A SANDBOX (cutbox-rows.mjs): the forced cells as the released guide's own fill.sh prints them over the translation bdcd48f112954213… (all of the seat's roots in one cut). By AI agents, Wed Nov 11 2026. No macro, syntax, notation, axiom, sorry.
-/
import Derived.Test.YtcegmbplgghjnaaChecked
import GoSem.Claim
import GoSem.ClaimJoined
import GoSem.ClaimMapViews
import Derived.JoinedTies
import Derived.KernelRfl
namespace Go.Proofs.Ytcegmbplgghjnaa
/- THE CELL 'sum', in the pinned program and in every row, IS THE sha256 OF THE DUMP (.gsa) THAT YtcegmbplgghjnaaProg.lean LOADS. Nothing in Lean hashes anything: it is a label: what it is worth is what the hold of that sum in a sandbox is worth. -/
noncomputable def Try.pinned : Pinned := { name := "ytcegmbplgghjnaa", sum := "bdcd48f1129542133fa930d024cb7693b5d15ffc4df1b2dd57b6db5fe81eebc0", checked := Try.checked }
namespace Rows
def none {H : Type} : Left H := { results := [], args := [] }

/-- 'lathelaw04.PairMuls': WHATEVER THE INPUT: true; the input reads as it did. -/
def pairMulsSpec : ChangeSpec := { name := "pairMuls", fn := fun _ => fun
  | [d1, d2] => { results := [.lit (.bool true)], args := [d1, d2] }
  | _ => none }
def pairMulsRow : OpenClaim := { program := "ytcegmbplgghjnaa", sum := "bdcd48f1129542133fa930d024cb7693b5d15ffc4df1b2dd57b6db5fe81eebc0", func := "lathe/lathelaw04.PairMuls", spec := "pairMuls", inPlace := ["math.Float32frombits", "math.Float32bits"], apart := false }
def PairMulsSaid : Prop := pairMulsRow.holds Try.pinned (OpenSpec.ofChange pairMulsSpec)

/-- ITS FALSE NEIGHBOUR: 'it returns false'. Refute it at one input. -/
def pairMulsWrong : ChangeSpec := { name := "pairMuls", fn := fun _ => fun
  | [d1, d2] => { results := [.lit (.bool false)], args := [d1, d2] }
  | _ => none }
def PairMulsWrongFalsely : Prop := pairMulsRow.holds Try.pinned (OpenSpec.ofChange pairMulsWrong)

/-- 'lathelaw04.PairGauss': WHATEVER THE INPUT: true; the input reads as it did. -/
def pairGaussSpec : ChangeSpec := { name := "pairGauss", fn := fun _ => fun
  | [d] => { results := [.lit (.bool true)], args := [d] }
  | _ => none }
def pairGaussRow : OpenClaim := { program := "ytcegmbplgghjnaa", sum := "bdcd48f1129542133fa930d024cb7693b5d15ffc4df1b2dd57b6db5fe81eebc0", func := "lathe/lathelaw04.PairGauss", spec := "pairGauss", inPlace := ["math.Float32frombits", "math.Float32bits"], apart := false }
def PairGaussSaid : Prop := pairGaussRow.holds Try.pinned (OpenSpec.ofChange pairGaussSpec)

/-- ITS FALSE NEIGHBOUR: 'it returns false'. Refute it at one input. -/
def pairGaussWrong : ChangeSpec := { name := "pairGauss", fn := fun _ => fun
  | [d] => { results := [.lit (.bool false)], args := [d] }
  | _ => none }
def PairGaussWrongFalsely : Prop := pairGaussRow.holds Try.pinned (OpenSpec.ofChange pairGaussWrong)

/-- 'lathelaw04.PairTurns': WHATEVER THE INPUT: true; the input reads as it did. -/
def pairTurnsSpec : ChangeSpec := { name := "pairTurns", fn := fun _ => fun
  | [d1, d2] => { results := [.lit (.bool true)], args := [d1, d2] }
  | _ => none }
def pairTurnsRow : OpenClaim := { program := "ytcegmbplgghjnaa", sum := "bdcd48f1129542133fa930d024cb7693b5d15ffc4df1b2dd57b6db5fe81eebc0", func := "lathe/lathelaw04.PairTurns", spec := "pairTurns", inPlace := ["math.Float32frombits", "math.Float32bits"], apart := false }
def PairTurnsSaid : Prop := pairTurnsRow.holds Try.pinned (OpenSpec.ofChange pairTurnsSpec)

/-- ITS FALSE NEIGHBOUR: 'it returns false'. Refute it at one input. -/
def pairTurnsWrong : ChangeSpec := { name := "pairTurns", fn := fun _ => fun
  | [d1, d2] => { results := [.lit (.bool false)], args := [d1, d2] }
  | _ => none }
def PairTurnsWrongFalsely : Prop := pairTurnsRow.holds Try.pinned (OpenSpec.ofChange pairTurnsWrong)

/-- 'lathelaw04.PairParts': WHATEVER THE INPUT: true; the input reads as it did. -/
def pairPartsSpec : ChangeSpec := { name := "pairParts", fn := fun _ => fun
  | [d1, d2, d3] => { results := [.lit (.bool true)], args := [d1, d2, d3] }
  | _ => none }
def pairPartsRow : OpenClaim := { program := "ytcegmbplgghjnaa", sum := "bdcd48f1129542133fa930d024cb7693b5d15ffc4df1b2dd57b6db5fe81eebc0", func := "lathe/lathelaw04.PairParts", spec := "pairParts", inPlace := ["math.Float32frombits", "math.Float32bits"], apart := false }
def PairPartsSaid : Prop := pairPartsRow.holds Try.pinned (OpenSpec.ofChange pairPartsSpec)

/-- ITS FALSE NEIGHBOUR: 'it returns false'. Refute it at one input. -/
def pairPartsWrong : ChangeSpec := { name := "pairParts", fn := fun _ => fun
  | [d1, d2, d3] => { results := [.lit (.bool false)], args := [d1, d2, d3] }
  | _ => none }
def PairPartsWrongFalsely : Prop := pairPartsRow.holds Try.pinned (OpenSpec.ofChange pairPartsWrong)

/-- 'lathelaw04.PairLists': WHATEVER THE INPUT: true; the input reads as it did. -/
def pairListsSpec : ChangeSpec := { name := "pairLists", fn := fun _ => fun
  | [d] => { results := [.lit (.bool true)], args := [d] }
  | _ => none }
def pairListsRow : OpenClaim := { program := "ytcegmbplgghjnaa", sum := "bdcd48f1129542133fa930d024cb7693b5d15ffc4df1b2dd57b6db5fe81eebc0", func := "lathe/lathelaw04.PairLists", spec := "pairLists", inPlace := ["math.Float32frombits", "math.Float32bits"], apart := false }
def PairListsSaid : Prop := pairListsRow.holds Try.pinned (OpenSpec.ofChange pairListsSpec)

/-- ITS FALSE NEIGHBOUR: 'it returns false'. Refute it at one input. -/
def pairListsWrong : ChangeSpec := { name := "pairLists", fn := fun _ => fun
  | [d] => { results := [.lit (.bool false)], args := [d] }
  | _ => none }
def PairListsWrongFalsely : Prop := pairListsRow.holds Try.pinned (OpenSpec.ofChange pairListsWrong)

/-- 'lathelaw04.PairPowers': WHATEVER THE INPUT: true; the input reads as it did. -/
def pairPowersSpec : ChangeSpec := { name := "pairPowers", fn := fun _ => fun
  | [d1, d2] => { results := [.lit (.bool true)], args := [d1, d2] }
  | _ => none }
def pairPowersRow : OpenClaim := { program := "ytcegmbplgghjnaa", sum := "bdcd48f1129542133fa930d024cb7693b5d15ffc4df1b2dd57b6db5fe81eebc0", func := "lathe/lathelaw04.PairPowers", spec := "pairPowers", inPlace := ["math.Float32frombits", "math.Float32bits"], apart := false }
def PairPowersSaid : Prop := pairPowersRow.holds Try.pinned (OpenSpec.ofChange pairPowersSpec)

/-- ITS FALSE NEIGHBOUR: 'it returns false'. Refute it at one input. -/
def pairPowersWrong : ChangeSpec := { name := "pairPowers", fn := fun _ => fun
  | [d1, d2] => { results := [.lit (.bool false)], args := [d1, d2] }
  | _ => none }
def PairPowersWrongFalsely : Prop := pairPowersRow.holds Try.pinned (OpenSpec.ofChange pairPowersWrong)

/-- 'lathelaw02.FloatMuls': WHATEVER THE INPUT: true; the input reads as it did. -/
def floatMulsSpec : ChangeSpec := { name := "floatMuls", fn := fun _ => fun
  | [d1, d2] => { results := [.lit (.bool true)], args := [d1, d2] }
  | _ => none }
def floatMulsRow : OpenClaim := { program := "ytcegmbplgghjnaa", sum := "bdcd48f1129542133fa930d024cb7693b5d15ffc4df1b2dd57b6db5fe81eebc0", func := "lathe/lathelaw02.FloatMuls", spec := "floatMuls", inPlace := ["math.Float32frombits", "math.Float32bits", "math.sqrt"], apart := false }
def FloatMulsSaid : Prop := floatMulsRow.holds Try.pinned (OpenSpec.ofChange floatMulsSpec)

/-- ITS FALSE NEIGHBOUR: 'it returns false'. Refute it at one input. -/
def floatMulsWrong : ChangeSpec := { name := "floatMuls", fn := fun _ => fun
  | [d1, d2] => { results := [.lit (.bool false)], args := [d1, d2] }
  | _ => none }
def FloatMulsWrongFalsely : Prop := floatMulsRow.holds Try.pinned (OpenSpec.ofChange floatMulsWrong)

/-- 'lathelaw02.FloatDivs': WHATEVER THE INPUT: true; the input reads as it did. -/
def floatDivsSpec : ChangeSpec := { name := "floatDivs", fn := fun _ => fun
  | [d1, d2] => { results := [.lit (.bool true)], args := [d1, d2] }
  | _ => none }
def floatDivsRow : OpenClaim := { program := "ytcegmbplgghjnaa", sum := "bdcd48f1129542133fa930d024cb7693b5d15ffc4df1b2dd57b6db5fe81eebc0", func := "lathe/lathelaw02.FloatDivs", spec := "floatDivs", inPlace := ["math.Float32frombits", "math.Float32bits", "math.sqrt"], apart := false }
def FloatDivsSaid : Prop := floatDivsRow.holds Try.pinned (OpenSpec.ofChange floatDivsSpec)

/-- ITS FALSE NEIGHBOUR: 'it returns false'. Refute it at one input. -/
def floatDivsWrong : ChangeSpec := { name := "floatDivs", fn := fun _ => fun
  | [d1, d2] => { results := [.lit (.bool false)], args := [d1, d2] }
  | _ => none }
def FloatDivsWrongFalsely : Prop := floatDivsRow.holds Try.pinned (OpenSpec.ofChange floatDivsWrong)

/-- 'lathelaw02.FloatAdds': WHATEVER THE INPUT: true; the input reads as it did. -/
def floatAddsSpec : ChangeSpec := { name := "floatAdds", fn := fun _ => fun
  | [d1, d2] => { results := [.lit (.bool true)], args := [d1, d2] }
  | _ => none }
def floatAddsRow : OpenClaim := { program := "ytcegmbplgghjnaa", sum := "bdcd48f1129542133fa930d024cb7693b5d15ffc4df1b2dd57b6db5fe81eebc0", func := "lathe/lathelaw02.FloatAdds", spec := "floatAdds", inPlace := ["math.Float32frombits", "math.Float32bits", "math.sqrt"], apart := false }
def FloatAddsSaid : Prop := floatAddsRow.holds Try.pinned (OpenSpec.ofChange floatAddsSpec)

/-- ITS FALSE NEIGHBOUR: 'it returns false'. Refute it at one input. -/
def floatAddsWrong : ChangeSpec := { name := "floatAdds", fn := fun _ => fun
  | [d1, d2] => { results := [.lit (.bool false)], args := [d1, d2] }
  | _ => none }
def FloatAddsWrongFalsely : Prop := floatAddsRow.holds Try.pinned (OpenSpec.ofChange floatAddsWrong)

/-- 'lathelaw02.FloatNear': WHATEVER THE INPUT: true; the input reads as it did. -/
def floatNearSpec : ChangeSpec := { name := "floatNear", fn := fun _ => fun
  | [d1, d2] => { results := [.lit (.bool true)], args := [d1, d2] }
  | _ => none }
def floatNearRow : OpenClaim := { program := "ytcegmbplgghjnaa", sum := "bdcd48f1129542133fa930d024cb7693b5d15ffc4df1b2dd57b6db5fe81eebc0", func := "lathe/lathelaw02.FloatNear", spec := "floatNear", inPlace := ["math.Float32frombits", "math.Float32bits", "math.sqrt"], apart := false }
def FloatNearSaid : Prop := floatNearRow.holds Try.pinned (OpenSpec.ofChange floatNearSpec)

/-- ITS FALSE NEIGHBOUR: 'it returns false'. Refute it at one input. -/
def floatNearWrong : ChangeSpec := { name := "floatNear", fn := fun _ => fun
  | [d1, d2] => { results := [.lit (.bool false)], args := [d1, d2] }
  | _ => none }
def FloatNearWrongFalsely : Prop := floatNearRow.holds Try.pinned (OpenSpec.ofChange floatNearWrong)

/-- 'lathelaw02.FloatNearDiv': WHATEVER THE INPUT: true; the input reads as it did. -/
def floatNearDivSpec : ChangeSpec := { name := "floatNearDiv", fn := fun _ => fun
  | [d1, d2] => { results := [.lit (.bool true)], args := [d1, d2] }
  | _ => none }
def floatNearDivRow : OpenClaim := { program := "ytcegmbplgghjnaa", sum := "bdcd48f1129542133fa930d024cb7693b5d15ffc4df1b2dd57b6db5fe81eebc0", func := "lathe/lathelaw02.FloatNearDiv", spec := "floatNearDiv", inPlace := ["math.Float32frombits", "math.Float32bits", "math.sqrt"], apart := false }
def FloatNearDivSaid : Prop := floatNearDivRow.holds Try.pinned (OpenSpec.ofChange floatNearDivSpec)

/-- ITS FALSE NEIGHBOUR: 'it returns false'. Refute it at one input. -/
def floatNearDivWrong : ChangeSpec := { name := "floatNearDiv", fn := fun _ => fun
  | [d1, d2] => { results := [.lit (.bool false)], args := [d1, d2] }
  | _ => none }
def FloatNearDivWrongFalsely : Prop := floatNearDivRow.holds Try.pinned (OpenSpec.ofChange floatNearDivWrong)

/-- 'lathelaw02.FloatNearRoot': WHATEVER THE INPUT: true; the input reads as it did. -/
def floatNearRootSpec : ChangeSpec := { name := "floatNearRoot", fn := fun _ => fun
  | [d] => { results := [.lit (.bool true)], args := [d] }
  | _ => none }
def floatNearRootRow : OpenClaim := { program := "ytcegmbplgghjnaa", sum := "bdcd48f1129542133fa930d024cb7693b5d15ffc4df1b2dd57b6db5fe81eebc0", func := "lathe/lathelaw02.FloatNearRoot", spec := "floatNearRoot", inPlace := ["math.Float32frombits", "math.sqrt", "math.Float32bits"], apart := false }
def FloatNearRootSaid : Prop := floatNearRootRow.holds Try.pinned (OpenSpec.ofChange floatNearRootSpec)

/-- ITS FALSE NEIGHBOUR: 'it returns false'. Refute it at one input. -/
def floatNearRootWrong : ChangeSpec := { name := "floatNearRoot", fn := fun _ => fun
  | [d] => { results := [.lit (.bool false)], args := [d] }
  | _ => none }
def FloatNearRootWrongFalsely : Prop := floatNearRootRow.holds Try.pinned (OpenSpec.ofChange floatNearRootWrong)

/-- 'lathelaw02.FloatRoots': WHATEVER THE INPUT: true; the input reads as it did. -/
def floatRootsSpec : ChangeSpec := { name := "floatRoots", fn := fun _ => fun
  | [d] => { results := [.lit (.bool true)], args := [d] }
  | _ => none }
def floatRootsRow : OpenClaim := { program := "ytcegmbplgghjnaa", sum := "bdcd48f1129542133fa930d024cb7693b5d15ffc4df1b2dd57b6db5fe81eebc0", func := "lathe/lathelaw02.FloatRoots", spec := "floatRoots", inPlace := ["math.Float32frombits", "math.sqrt", "math.Float32bits"], apart := false }
def FloatRootsSaid : Prop := floatRootsRow.holds Try.pinned (OpenSpec.ofChange floatRootsSpec)

/-- ITS FALSE NEIGHBOUR: 'it returns false'. Refute it at one input. -/
def floatRootsWrong : ChangeSpec := { name := "floatRoots", fn := fun _ => fun
  | [d] => { results := [.lit (.bool false)], args := [d] }
  | _ => none }
def FloatRootsWrongFalsely : Prop := floatRootsRow.holds Try.pinned (OpenSpec.ofChange floatRootsWrong)

/-- 'lathelaw02.FloatKeeps': WHATEVER THE INPUT: true; the input reads as it did. -/
def floatKeepsSpec : ChangeSpec := { name := "floatKeeps", fn := fun _ => fun
  | [d1, d2, d3] => { results := [.lit (.bool true)], args := [d1, d2, d3] }
  | _ => none }
def floatKeepsRow : OpenClaim := { program := "ytcegmbplgghjnaa", sum := "bdcd48f1129542133fa930d024cb7693b5d15ffc4df1b2dd57b6db5fe81eebc0", func := "lathe/lathelaw02.FloatKeeps", spec := "floatKeeps", inPlace := ["math.Float32frombits", "math.Float32bits", "math.sqrt"], apart := false }
def FloatKeepsSaid : Prop := floatKeepsRow.holds Try.pinned (OpenSpec.ofChange floatKeepsSpec)

/-- ITS FALSE NEIGHBOUR: 'it returns false'. Refute it at one input. -/
def floatKeepsWrong : ChangeSpec := { name := "floatKeeps", fn := fun _ => fun
  | [d1, d2, d3] => { results := [.lit (.bool false)], args := [d1, d2, d3] }
  | _ => none }
def FloatKeepsWrongFalsely : Prop := floatKeepsRow.holds Try.pinned (OpenSpec.ofChange floatKeepsWrong)

/-- 'lathelaw02.FloatKnuth': WHATEVER THE INPUT: true; the input reads as it did. -/
def floatKnuthSpec : ChangeSpec := { name := "floatKnuth", fn := fun _ => fun
  | [d1, d2] => { results := [.lit (.bool true)], args := [d1, d2] }
  | _ => none }
def floatKnuthRow : OpenClaim := { program := "ytcegmbplgghjnaa", sum := "bdcd48f1129542133fa930d024cb7693b5d15ffc4df1b2dd57b6db5fe81eebc0", func := "lathe/lathelaw02.FloatKnuth", spec := "floatKnuth", inPlace := ["math.Float32frombits", "math.Float32bits", "math.sqrt"], apart := false }
def FloatKnuthSaid : Prop := floatKnuthRow.holds Try.pinned (OpenSpec.ofChange floatKnuthSpec)

/-- ITS FALSE NEIGHBOUR: 'it returns false'. Refute it at one input. -/
def floatKnuthWrong : ChangeSpec := { name := "floatKnuth", fn := fun _ => fun
  | [d1, d2] => { results := [.lit (.bool false)], args := [d1, d2] }
  | _ => none }
def FloatKnuthWrongFalsely : Prop := floatKnuthRow.holds Try.pinned (OpenSpec.ofChange floatKnuthWrong)

/-- 'lathelaw02.FloatExact': WHATEVER THE INPUT: true; the input reads as it did. -/
def floatExactSpec : ChangeSpec := { name := "floatExact", fn := fun _ => fun
  | [d] => { results := [.lit (.bool true)], args := [d] }
  | _ => none }
def floatExactRow : OpenClaim := { program := "ytcegmbplgghjnaa", sum := "bdcd48f1129542133fa930d024cb7693b5d15ffc4df1b2dd57b6db5fe81eebc0", func := "lathe/lathelaw02.FloatExact", spec := "floatExact", inPlace := ["math.Float32frombits", "math.Float32bits", "math.sqrt"], apart := false }
def FloatExactSaid : Prop := floatExactRow.holds Try.pinned (OpenSpec.ofChange floatExactSpec)

/-- ITS FALSE NEIGHBOUR: 'it returns false'. Refute it at one input. -/
def floatExactWrong : ChangeSpec := { name := "floatExact", fn := fun _ => fun
  | [d] => { results := [.lit (.bool false)], args := [d] }
  | _ => none }
def FloatExactWrongFalsely : Prop := floatExactRow.holds Try.pinned (OpenSpec.ofChange floatExactWrong)

/-- 'lathelaw02.FloatSterbenz': WHATEVER THE INPUT: true; the input reads as it did. -/
def floatSterbenzSpec : ChangeSpec := { name := "floatSterbenz", fn := fun _ => fun
  | [d1, d2] => { results := [.lit (.bool true)], args := [d1, d2] }
  | _ => none }
def floatSterbenzRow : OpenClaim := { program := "ytcegmbplgghjnaa", sum := "bdcd48f1129542133fa930d024cb7693b5d15ffc4df1b2dd57b6db5fe81eebc0", func := "lathe/lathelaw02.FloatSterbenz", spec := "floatSterbenz", inPlace := ["math.Float32frombits", "math.Float32bits", "math.sqrt"], apart := false }
def FloatSterbenzSaid : Prop := floatSterbenzRow.holds Try.pinned (OpenSpec.ofChange floatSterbenzSpec)

/-- ITS FALSE NEIGHBOUR: 'it returns false'. Refute it at one input. -/
def floatSterbenzWrong : ChangeSpec := { name := "floatSterbenz", fn := fun _ => fun
  | [d1, d2] => { results := [.lit (.bool false)], args := [d1, d2] }
  | _ => none }
def FloatSterbenzWrongFalsely : Prop := floatSterbenzRow.holds Try.pinned (OpenSpec.ofChange floatSterbenzWrong)

/-- 'lathelaw02.FloatTurns': WHATEVER THE INPUT: true; the input reads as it did. -/
def floatTurnsSpec : ChangeSpec := { name := "floatTurns", fn := fun _ => fun
  | [d1, d2] => { results := [.lit (.bool true)], args := [d1, d2] }
  | _ => none }
def floatTurnsRow : OpenClaim := { program := "ytcegmbplgghjnaa", sum := "bdcd48f1129542133fa930d024cb7693b5d15ffc4df1b2dd57b6db5fe81eebc0", func := "lathe/lathelaw02.FloatTurns", spec := "floatTurns", inPlace := ["math.Float32frombits", "math.Float32bits", "math.sqrt"], apart := false }
def FloatTurnsSaid : Prop := floatTurnsRow.holds Try.pinned (OpenSpec.ofChange floatTurnsSpec)

/-- ITS FALSE NEIGHBOUR: 'it returns false'. Refute it at one input. -/
def floatTurnsWrong : ChangeSpec := { name := "floatTurns", fn := fun _ => fun
  | [d1, d2] => { results := [.lit (.bool false)], args := [d1, d2] }
  | _ => none }
def FloatTurnsWrongFalsely : Prop := floatTurnsRow.holds Try.pinned (OpenSpec.ofChange floatTurnsWrong)

/-- 'lathelaw02.FloatOrders': WHATEVER THE INPUT: true; the input reads as it did. -/
def floatOrdersSpec : ChangeSpec := { name := "floatOrders", fn := fun _ => fun
  | [d1, d2, d3] => { results := [.lit (.bool true)], args := [d1, d2, d3] }
  | _ => none }
def floatOrdersRow : OpenClaim := { program := "ytcegmbplgghjnaa", sum := "bdcd48f1129542133fa930d024cb7693b5d15ffc4df1b2dd57b6db5fe81eebc0", func := "lathe/lathelaw02.FloatOrders", spec := "floatOrders", inPlace := ["math.Float32frombits", "math.Float32bits", "math.sqrt"], apart := false }
def FloatOrdersSaid : Prop := floatOrdersRow.holds Try.pinned (OpenSpec.ofChange floatOrdersSpec)

/-- ITS FALSE NEIGHBOUR: 'it returns false'. Refute it at one input. -/
def floatOrdersWrong : ChangeSpec := { name := "floatOrders", fn := fun _ => fun
  | [d1, d2, d3] => { results := [.lit (.bool false)], args := [d1, d2, d3] }
  | _ => none }
def FloatOrdersWrongFalsely : Prop := floatOrdersRow.holds Try.pinned (OpenSpec.ofChange floatOrdersWrong)

/-- 'lathelaw02.FloatWholes': WHATEVER THE INPUT: true; the input reads as it did. -/
def floatWholesSpec : ChangeSpec := { name := "floatWholes", fn := fun _ => fun
  | [d1, d2] => { results := [.lit (.bool true)], args := [d1, d2] }
  | _ => none }
def floatWholesRow : OpenClaim := { program := "ytcegmbplgghjnaa", sum := "bdcd48f1129542133fa930d024cb7693b5d15ffc4df1b2dd57b6db5fe81eebc0", func := "lathe/lathelaw02.FloatWholes", spec := "floatWholes", inPlace := ["math.Float32bits", "math.Float32frombits", "math.sqrt"], apart := false }
def FloatWholesSaid : Prop := floatWholesRow.holds Try.pinned (OpenSpec.ofChange floatWholesSpec)

/-- ITS FALSE NEIGHBOUR: 'it returns false'. Refute it at one input. -/
def floatWholesWrong : ChangeSpec := { name := "floatWholes", fn := fun _ => fun
  | [d1, d2] => { results := [.lit (.bool false)], args := [d1, d2] }
  | _ => none }
def FloatWholesWrongFalsely : Prop := floatWholesRow.holds Try.pinned (OpenSpec.ofChange floatWholesWrong)

/- THE SECOND FORM. 'bulk': how many values and letters a reading holds, each counted each time it is reached (what is shared counts as often as it is met; a slice's spare places count too). A statement '..UptoSaid' is the law's where the arguments, and the package variables that the reading takes, are together of bulk at most 1048576: NARROWER than '..Said'. Prove '..Said' where nothing that the law and all that it calls make is longer than what came in: it says more and counts as full. Else prove '..UptoSaid'. A law counts once. -/
mutual
def uptoBulk {H : Type} : DataW H → Nat
  | .lit (.string bytes) => bytes.length + 1
  | .lit _ => 1
  | .nil => 1
  | .ptr d => uptoBulk d + 1
  | .slice elems spare => uptoBulkAll elems + uptoBulkAll spare + 1
  | .agg parts => uptoBulkAll parts + 1
  | .iface _ d => uptoBulk d + 1
  | .map entries => uptoBulkEntries entries + 1
  | .held _ => 1
def uptoBulkAll {H : Type} : List (DataW H) → Nat
  | [] => 0
  | d :: r => uptoBulk d + uptoBulkAll r
def uptoBulkEntries {H : Type} : List (Lit × DataW H) → Nat
  | [] => 0
  | x :: r => uptoBulkEntry x + uptoBulkEntries r
def uptoBulkEntry {H : Type} : Lit × DataW H → Nat
  | (.string bytes, d) => bytes.length + uptoBulk d + 1
  | (_, d) => uptoBulk d + 1
 end
def uptoSmall : (H : Type) → List (DataW H) → Bool := fun _ ds => decide (uptoBulkAll ds ≤ 1048576)
def OpenSpec.upto (s : _root_.Go.ChangeSpec) : _root_.Go.OpenSpec := { _root_.Go.OpenSpec.ofChange s with cond := some uptoSmall }

/-- 'lathelaw04.PairMuls', WHERE WHAT IT READS IS OF BULK AT MOST 1048576: true; the input reads as it did. -/
def pairMulsUptoRow : OpenClaim := { program := "ytcegmbplgghjnaa", sum := "bdcd48f1129542133fa930d024cb7693b5d15ffc4df1b2dd57b6db5fe81eebc0", func := "lathe/lathelaw04.PairMuls", spec := "pairMuls", inPlace := ["math.Float32frombits", "math.Float32bits"], apart := false, narrowed := true }
def PairMulsUptoSaid : Prop := pairMulsUptoRow.holds Try.pinned (OpenSpec.upto pairMulsSpec)

/-- 'lathelaw04.PairGauss', WHERE WHAT IT READS IS OF BULK AT MOST 1048576: true; the input reads as it did. -/
def pairGaussUptoRow : OpenClaim := { program := "ytcegmbplgghjnaa", sum := "bdcd48f1129542133fa930d024cb7693b5d15ffc4df1b2dd57b6db5fe81eebc0", func := "lathe/lathelaw04.PairGauss", spec := "pairGauss", inPlace := ["math.Float32frombits", "math.Float32bits"], apart := false, narrowed := true }
def PairGaussUptoSaid : Prop := pairGaussUptoRow.holds Try.pinned (OpenSpec.upto pairGaussSpec)

/-- 'lathelaw04.PairTurns', WHERE WHAT IT READS IS OF BULK AT MOST 1048576: true; the input reads as it did. -/
def pairTurnsUptoRow : OpenClaim := { program := "ytcegmbplgghjnaa", sum := "bdcd48f1129542133fa930d024cb7693b5d15ffc4df1b2dd57b6db5fe81eebc0", func := "lathe/lathelaw04.PairTurns", spec := "pairTurns", inPlace := ["math.Float32frombits", "math.Float32bits"], apart := false, narrowed := true }
def PairTurnsUptoSaid : Prop := pairTurnsUptoRow.holds Try.pinned (OpenSpec.upto pairTurnsSpec)

/-- 'lathelaw04.PairParts', WHERE WHAT IT READS IS OF BULK AT MOST 1048576: true; the input reads as it did. -/
def pairPartsUptoRow : OpenClaim := { program := "ytcegmbplgghjnaa", sum := "bdcd48f1129542133fa930d024cb7693b5d15ffc4df1b2dd57b6db5fe81eebc0", func := "lathe/lathelaw04.PairParts", spec := "pairParts", inPlace := ["math.Float32frombits", "math.Float32bits"], apart := false, narrowed := true }
def PairPartsUptoSaid : Prop := pairPartsUptoRow.holds Try.pinned (OpenSpec.upto pairPartsSpec)

/-- 'lathelaw04.PairLists', WHERE WHAT IT READS IS OF BULK AT MOST 1048576: true; the input reads as it did. -/
def pairListsUptoRow : OpenClaim := { program := "ytcegmbplgghjnaa", sum := "bdcd48f1129542133fa930d024cb7693b5d15ffc4df1b2dd57b6db5fe81eebc0", func := "lathe/lathelaw04.PairLists", spec := "pairLists", inPlace := ["math.Float32frombits", "math.Float32bits"], apart := false, narrowed := true }
def PairListsUptoSaid : Prop := pairListsUptoRow.holds Try.pinned (OpenSpec.upto pairListsSpec)

/-- 'lathelaw04.PairPowers', WHERE WHAT IT READS IS OF BULK AT MOST 1048576: true; the input reads as it did. -/
def pairPowersUptoRow : OpenClaim := { program := "ytcegmbplgghjnaa", sum := "bdcd48f1129542133fa930d024cb7693b5d15ffc4df1b2dd57b6db5fe81eebc0", func := "lathe/lathelaw04.PairPowers", spec := "pairPowers", inPlace := ["math.Float32frombits", "math.Float32bits"], apart := false, narrowed := true }
def PairPowersUptoSaid : Prop := pairPowersUptoRow.holds Try.pinned (OpenSpec.upto pairPowersSpec)

/-- 'lathelaw02.FloatMuls', WHERE WHAT IT READS IS OF BULK AT MOST 1048576: true; the input reads as it did. -/
def floatMulsUptoRow : OpenClaim := { program := "ytcegmbplgghjnaa", sum := "bdcd48f1129542133fa930d024cb7693b5d15ffc4df1b2dd57b6db5fe81eebc0", func := "lathe/lathelaw02.FloatMuls", spec := "floatMuls", inPlace := ["math.Float32frombits", "math.Float32bits", "math.sqrt"], apart := false, narrowed := true }
def FloatMulsUptoSaid : Prop := floatMulsUptoRow.holds Try.pinned (OpenSpec.upto floatMulsSpec)

/-- 'lathelaw02.FloatDivs', WHERE WHAT IT READS IS OF BULK AT MOST 1048576: true; the input reads as it did. -/
def floatDivsUptoRow : OpenClaim := { program := "ytcegmbplgghjnaa", sum := "bdcd48f1129542133fa930d024cb7693b5d15ffc4df1b2dd57b6db5fe81eebc0", func := "lathe/lathelaw02.FloatDivs", spec := "floatDivs", inPlace := ["math.Float32frombits", "math.Float32bits", "math.sqrt"], apart := false, narrowed := true }
def FloatDivsUptoSaid : Prop := floatDivsUptoRow.holds Try.pinned (OpenSpec.upto floatDivsSpec)

/-- 'lathelaw02.FloatAdds', WHERE WHAT IT READS IS OF BULK AT MOST 1048576: true; the input reads as it did. -/
def floatAddsUptoRow : OpenClaim := { program := "ytcegmbplgghjnaa", sum := "bdcd48f1129542133fa930d024cb7693b5d15ffc4df1b2dd57b6db5fe81eebc0", func := "lathe/lathelaw02.FloatAdds", spec := "floatAdds", inPlace := ["math.Float32frombits", "math.Float32bits", "math.sqrt"], apart := false, narrowed := true }
def FloatAddsUptoSaid : Prop := floatAddsUptoRow.holds Try.pinned (OpenSpec.upto floatAddsSpec)

/-- 'lathelaw02.FloatNear', WHERE WHAT IT READS IS OF BULK AT MOST 1048576: true; the input reads as it did. -/
def floatNearUptoRow : OpenClaim := { program := "ytcegmbplgghjnaa", sum := "bdcd48f1129542133fa930d024cb7693b5d15ffc4df1b2dd57b6db5fe81eebc0", func := "lathe/lathelaw02.FloatNear", spec := "floatNear", inPlace := ["math.Float32frombits", "math.Float32bits", "math.sqrt"], apart := false, narrowed := true }
def FloatNearUptoSaid : Prop := floatNearUptoRow.holds Try.pinned (OpenSpec.upto floatNearSpec)

/-- 'lathelaw02.FloatNearDiv', WHERE WHAT IT READS IS OF BULK AT MOST 1048576: true; the input reads as it did. -/
def floatNearDivUptoRow : OpenClaim := { program := "ytcegmbplgghjnaa", sum := "bdcd48f1129542133fa930d024cb7693b5d15ffc4df1b2dd57b6db5fe81eebc0", func := "lathe/lathelaw02.FloatNearDiv", spec := "floatNearDiv", inPlace := ["math.Float32frombits", "math.Float32bits", "math.sqrt"], apart := false, narrowed := true }
def FloatNearDivUptoSaid : Prop := floatNearDivUptoRow.holds Try.pinned (OpenSpec.upto floatNearDivSpec)

/-- 'lathelaw02.FloatNearRoot', WHERE WHAT IT READS IS OF BULK AT MOST 1048576: true; the input reads as it did. -/
def floatNearRootUptoRow : OpenClaim := { program := "ytcegmbplgghjnaa", sum := "bdcd48f1129542133fa930d024cb7693b5d15ffc4df1b2dd57b6db5fe81eebc0", func := "lathe/lathelaw02.FloatNearRoot", spec := "floatNearRoot", inPlace := ["math.Float32frombits", "math.sqrt", "math.Float32bits"], apart := false, narrowed := true }
def FloatNearRootUptoSaid : Prop := floatNearRootUptoRow.holds Try.pinned (OpenSpec.upto floatNearRootSpec)

/-- 'lathelaw02.FloatRoots', WHERE WHAT IT READS IS OF BULK AT MOST 1048576: true; the input reads as it did. -/
def floatRootsUptoRow : OpenClaim := { program := "ytcegmbplgghjnaa", sum := "bdcd48f1129542133fa930d024cb7693b5d15ffc4df1b2dd57b6db5fe81eebc0", func := "lathe/lathelaw02.FloatRoots", spec := "floatRoots", inPlace := ["math.Float32frombits", "math.sqrt", "math.Float32bits"], apart := false, narrowed := true }
def FloatRootsUptoSaid : Prop := floatRootsUptoRow.holds Try.pinned (OpenSpec.upto floatRootsSpec)

/-- 'lathelaw02.FloatKeeps', WHERE WHAT IT READS IS OF BULK AT MOST 1048576: true; the input reads as it did. -/
def floatKeepsUptoRow : OpenClaim := { program := "ytcegmbplgghjnaa", sum := "bdcd48f1129542133fa930d024cb7693b5d15ffc4df1b2dd57b6db5fe81eebc0", func := "lathe/lathelaw02.FloatKeeps", spec := "floatKeeps", inPlace := ["math.Float32frombits", "math.Float32bits", "math.sqrt"], apart := false, narrowed := true }
def FloatKeepsUptoSaid : Prop := floatKeepsUptoRow.holds Try.pinned (OpenSpec.upto floatKeepsSpec)

/-- 'lathelaw02.FloatKnuth', WHERE WHAT IT READS IS OF BULK AT MOST 1048576: true; the input reads as it did. -/
def floatKnuthUptoRow : OpenClaim := { program := "ytcegmbplgghjnaa", sum := "bdcd48f1129542133fa930d024cb7693b5d15ffc4df1b2dd57b6db5fe81eebc0", func := "lathe/lathelaw02.FloatKnuth", spec := "floatKnuth", inPlace := ["math.Float32frombits", "math.Float32bits", "math.sqrt"], apart := false, narrowed := true }
def FloatKnuthUptoSaid : Prop := floatKnuthUptoRow.holds Try.pinned (OpenSpec.upto floatKnuthSpec)

/-- 'lathelaw02.FloatExact', WHERE WHAT IT READS IS OF BULK AT MOST 1048576: true; the input reads as it did. -/
def floatExactUptoRow : OpenClaim := { program := "ytcegmbplgghjnaa", sum := "bdcd48f1129542133fa930d024cb7693b5d15ffc4df1b2dd57b6db5fe81eebc0", func := "lathe/lathelaw02.FloatExact", spec := "floatExact", inPlace := ["math.Float32frombits", "math.Float32bits", "math.sqrt"], apart := false, narrowed := true }
def FloatExactUptoSaid : Prop := floatExactUptoRow.holds Try.pinned (OpenSpec.upto floatExactSpec)

/-- 'lathelaw02.FloatSterbenz', WHERE WHAT IT READS IS OF BULK AT MOST 1048576: true; the input reads as it did. -/
def floatSterbenzUptoRow : OpenClaim := { program := "ytcegmbplgghjnaa", sum := "bdcd48f1129542133fa930d024cb7693b5d15ffc4df1b2dd57b6db5fe81eebc0", func := "lathe/lathelaw02.FloatSterbenz", spec := "floatSterbenz", inPlace := ["math.Float32frombits", "math.Float32bits", "math.sqrt"], apart := false, narrowed := true }
def FloatSterbenzUptoSaid : Prop := floatSterbenzUptoRow.holds Try.pinned (OpenSpec.upto floatSterbenzSpec)

/-- 'lathelaw02.FloatTurns', WHERE WHAT IT READS IS OF BULK AT MOST 1048576: true; the input reads as it did. -/
def floatTurnsUptoRow : OpenClaim := { program := "ytcegmbplgghjnaa", sum := "bdcd48f1129542133fa930d024cb7693b5d15ffc4df1b2dd57b6db5fe81eebc0", func := "lathe/lathelaw02.FloatTurns", spec := "floatTurns", inPlace := ["math.Float32frombits", "math.Float32bits", "math.sqrt"], apart := false, narrowed := true }
def FloatTurnsUptoSaid : Prop := floatTurnsUptoRow.holds Try.pinned (OpenSpec.upto floatTurnsSpec)

/-- 'lathelaw02.FloatOrders', WHERE WHAT IT READS IS OF BULK AT MOST 1048576: true; the input reads as it did. -/
def floatOrdersUptoRow : OpenClaim := { program := "ytcegmbplgghjnaa", sum := "bdcd48f1129542133fa930d024cb7693b5d15ffc4df1b2dd57b6db5fe81eebc0", func := "lathe/lathelaw02.FloatOrders", spec := "floatOrders", inPlace := ["math.Float32frombits", "math.Float32bits", "math.sqrt"], apart := false, narrowed := true }
def FloatOrdersUptoSaid : Prop := floatOrdersUptoRow.holds Try.pinned (OpenSpec.upto floatOrdersSpec)

/-- 'lathelaw02.FloatWholes', WHERE WHAT IT READS IS OF BULK AT MOST 1048576: true; the input reads as it did. -/
def floatWholesUptoRow : OpenClaim := { program := "ytcegmbplgghjnaa", sum := "bdcd48f1129542133fa930d024cb7693b5d15ffc4df1b2dd57b6db5fe81eebc0", func := "lathe/lathelaw02.FloatWholes", spec := "floatWholes", inPlace := ["math.Float32bits", "math.Float32frombits", "math.sqrt"], apart := false, narrowed := true }
def FloatWholesUptoSaid : Prop := floatWholesUptoRow.holds Try.pinned (OpenSpec.upto floatWholesSpec)

end Rows
end Go.Proofs.Ytcegmbplgghjnaa
