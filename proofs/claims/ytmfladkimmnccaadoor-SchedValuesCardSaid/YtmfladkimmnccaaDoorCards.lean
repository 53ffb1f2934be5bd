/-
  DERIVED. GIVEN WITH THE SEED: THE CARDS: each row of YtmfladkimmnccaaDoorRows.lean that lists a variable, with what it lists TIED to the program's text (the seventh form; the later family's looks); each row that meets fmt, with fmt's text TOLD by the authors' own Lean function (tested against real Go, not proved from fmt's source: count such statements apart). THE CARD IS WHAT COUNTS. Prove the row's statement (the work); the ties are given (YtmfladkimmnccaaDoorTie.lean); close each card by the builder's one call (the guide's Derived/Test/ToyasCard.lean, 'card_holds'). Laid BY PROGRAM, IN A SANDBOX (cutbox-door.mjs). By AI agents, Wed Nov 11 2026. No macro, syntax, notation, axiom, sorry.
-/
import Derived.Test.YtmfladkimmnccaaDoorRows
import GoSem.ClaimSeven
namespace Go.Proofs.YtmfladkimmnccaaDoor
namespace Rows

/-- THE TIED CARD OF 'lathelaw14.SchedValues'. -/
def schedValuesCard : Claim7 := { stood := { row := schedValuesRow, standIns := [], harness := (true, "3b4bd39c696fedbe6f9437cb6d0baa8c4eaf99cd964505a8a7b9e8450cbaf629"), looks := false }, kinds := [], alts := [], laidByText := true, laidKinds := [.data], laidTests := true, laidLooks := .later }
def SchedValuesCardSaid : Prop := Claim7.holds Tryd.pinned (.plain (OpenSpec.ofChange schedValuesSpec)) schedValuesCard

/-- THE TIED CARD OF 'lathelaw14.SchedWaves'. -/
def schedWavesCard : Claim7 := { stood := { row := schedWavesRow, standIns := [], harness := (true, "3b4bd39c696fedbe6f9437cb6d0baa8c4eaf99cd964505a8a7b9e8450cbaf629"), looks := false }, kinds := [], alts := [], laidByText := true, laidKinds := [.data], laidTests := true, laidLooks := .later }
def SchedWavesCardSaid : Prop := Claim7.holds Tryd.pinned (.plain (OpenSpec.ofChange schedWavesSpec)) schedWavesCard

/-- THE TIED CARD OF 'lathelaw14.SchedWave'. -/
def schedWaveCard : Claim7 := { stood := { row := schedWaveRow, standIns := [], harness := (true, "3b4bd39c696fedbe6f9437cb6d0baa8c4eaf99cd964505a8a7b9e8450cbaf629"), looks := false }, kinds := [], alts := [], laidByText := true, laidKinds := [.data], laidTests := true, laidLooks := .later }
def SchedWaveCardSaid : Prop := Claim7.holds Tryd.pinned (.plain (OpenSpec.ofChange schedWaveSpec)) schedWaveCard

/-- THE TIED CARD OF 'lathelaw14.SchedDown'. -/
def schedDownCard : Claim7 := { stood := { row := schedDownRow, standIns := [], harness := (true, "3b4bd39c696fedbe6f9437cb6d0baa8c4eaf99cd964505a8a7b9e8450cbaf629"), looks := false }, kinds := [], alts := [], laidByText := true, laidKinds := [.data], laidTests := true, laidLooks := .later }
def SchedDownCardSaid : Prop := Claim7.holds Tryd.pinned (.plain (OpenSpec.ofChange schedDownSpec)) schedDownCard

/-- THE TIED CARD OF 'lathelaw14.SchedJoins'. -/
def schedJoinsCard : Claim7 := { stood := { row := schedJoinsRow, standIns := [], harness := (true, "3b4bd39c696fedbe6f9437cb6d0baa8c4eaf99cd964505a8a7b9e8450cbaf629"), looks := false }, kinds := [], alts := [], laidByText := true, laidKinds := [.data], laidTests := true, laidLooks := .later }
def SchedJoinsCardSaid : Prop := Claim7.holds Tryd.pinned (.plain (OpenSpec.ofChange schedJoinsSpec)) schedJoinsCard

/-- THE TIED CARD OF 'lathelaw14.SchedPairs'. -/
def schedPairsCard : Claim7 := { stood := { row := schedPairsRow, standIns := [], harness := (true, "3b4bd39c696fedbe6f9437cb6d0baa8c4eaf99cd964505a8a7b9e8450cbaf629"), looks := false }, kinds := [], alts := [], laidByText := true, laidKinds := [.data], laidTests := true, laidLooks := .later }
def SchedPairsCardSaid : Prop := Claim7.holds Tryd.pinned (.plain (OpenSpec.ofChange schedPairsSpec)) schedPairsCard

/-- THE TIED CARD OF 'lathelaw14.SchedOnes'. -/
def schedOnesCard : Claim7 := { stood := { row := schedOnesRow, standIns := [], harness := (true, "3b4bd39c696fedbe6f9437cb6d0baa8c4eaf99cd964505a8a7b9e8450cbaf629"), looks := false }, kinds := [], alts := [], laidByText := true, laidKinds := [.data], laidTests := true, laidLooks := .later }
def SchedOnesCardSaid : Prop := Claim7.holds Tryd.pinned (.plain (OpenSpec.ofChange schedOnesSpec)) schedOnesCard

/-- THE SECOND FORM's CARD OF 'lathelaw14.SchedValues'. -/
def schedValuesUptoCard : Claim7 := { stood := { row := schedValuesUptoRow, standIns := [], harness := (true, "3b4bd39c696fedbe6f9437cb6d0baa8c4eaf99cd964505a8a7b9e8450cbaf629"), looks := false }, kinds := [], alts := [], laidByText := true, laidKinds := [.data], laidTests := true, laidLooks := .later }
def SchedValuesUptoCardSaid : Prop := Claim7.holds Tryd.pinned (.plain (OpenSpec.upto schedValuesSpec)) schedValuesUptoCard

/-- THE SECOND FORM's CARD OF 'lathelaw14.SchedWaves'. -/
def schedWavesUptoCard : Claim7 := { stood := { row := schedWavesUptoRow, standIns := [], harness := (true, "3b4bd39c696fedbe6f9437cb6d0baa8c4eaf99cd964505a8a7b9e8450cbaf629"), looks := false }, kinds := [], alts := [], laidByText := true, laidKinds := [.data], laidTests := true, laidLooks := .later }
def SchedWavesUptoCardSaid : Prop := Claim7.holds Tryd.pinned (.plain (OpenSpec.upto schedWavesSpec)) schedWavesUptoCard

/-- THE SECOND FORM's CARD OF 'lathelaw14.SchedWave'. -/
def schedWaveUptoCard : Claim7 := { stood := { row := schedWaveUptoRow, standIns := [], harness := (true, "3b4bd39c696fedbe6f9437cb6d0baa8c4eaf99cd964505a8a7b9e8450cbaf629"), looks := false }, kinds := [], alts := [], laidByText := true, laidKinds := [.data], laidTests := true, laidLooks := .later }
def SchedWaveUptoCardSaid : Prop := Claim7.holds Tryd.pinned (.plain (OpenSpec.upto schedWaveSpec)) schedWaveUptoCard

/-- THE SECOND FORM's CARD OF 'lathelaw14.SchedDown'. -/
def schedDownUptoCard : Claim7 := { stood := { row := schedDownUptoRow, standIns := [], harness := (true, "3b4bd39c696fedbe6f9437cb6d0baa8c4eaf99cd964505a8a7b9e8450cbaf629"), looks := false }, kinds := [], alts := [], laidByText := true, laidKinds := [.data], laidTests := true, laidLooks := .later }
def SchedDownUptoCardSaid : Prop := Claim7.holds Tryd.pinned (.plain (OpenSpec.upto schedDownSpec)) schedDownUptoCard

/-- THE SECOND FORM's CARD OF 'lathelaw14.SchedJoins'. -/
def schedJoinsUptoCard : Claim7 := { stood := { row := schedJoinsUptoRow, standIns := [], harness := (true, "3b4bd39c696fedbe6f9437cb6d0baa8c4eaf99cd964505a8a7b9e8450cbaf629"), looks := false }, kinds := [], alts := [], laidByText := true, laidKinds := [.data], laidTests := true, laidLooks := .later }
def SchedJoinsUptoCardSaid : Prop := Claim7.holds Tryd.pinned (.plain (OpenSpec.upto schedJoinsSpec)) schedJoinsUptoCard

/-- THE SECOND FORM's CARD OF 'lathelaw14.SchedPairs'. -/
def schedPairsUptoCard : Claim7 := { stood := { row := schedPairsUptoRow, standIns := [], harness := (true, "3b4bd39c696fedbe6f9437cb6d0baa8c4eaf99cd964505a8a7b9e8450cbaf629"), looks := false }, kinds := [], alts := [], laidByText := true, laidKinds := [.data], laidTests := true, laidLooks := .later }
def SchedPairsUptoCardSaid : Prop := Claim7.holds Tryd.pinned (.plain (OpenSpec.upto schedPairsSpec)) schedPairsUptoCard

/-- THE SECOND FORM's CARD OF 'lathelaw14.SchedOnes'. -/
def schedOnesUptoCard : Claim7 := { stood := { row := schedOnesUptoRow, standIns := [], harness := (true, "3b4bd39c696fedbe6f9437cb6d0baa8c4eaf99cd964505a8a7b9e8450cbaf629"), looks := false }, kinds := [], alts := [], laidByText := true, laidKinds := [.data], laidTests := true, laidLooks := .later }
def SchedOnesUptoCardSaid : Prop := Claim7.holds Tryd.pinned (.plain (OpenSpec.upto schedOnesSpec)) schedOnesUptoCard
end Rows
end Go.Proofs.YtmfladkimmnccaaDoor
