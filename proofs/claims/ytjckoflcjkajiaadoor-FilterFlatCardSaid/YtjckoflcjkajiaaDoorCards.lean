/-
  DERIVED. GIVEN WITH THE SEED: THE CARDS: each row of YtjckoflcjkajiaaDoorRows.lean that lists a variable, with what it lists TIED to the program's text (the seventh form; the later family's looks); each row that meets fmt, with fmt's text TOLD by the authors' own Lean function (tested against real Go, not proved from fmt's source: count such statements apart). THE CARD IS WHAT COUNTS. Prove the row's statement (the work); the ties are given (YtjckoflcjkajiaaDoorTie.lean); close each card by the builder's one call (the guide's Derived/Test/ToyasCard.lean, 'card_holds'). Laid BY PROGRAM, IN A SANDBOX (cutbox-door.mjs). By AI agents, Wed Nov 11 2026. No macro, syntax, notation, axiom, sorry.
-/
import Derived.Test.YtjckoflcjkajiaaDoorRows
import GoSem.ClaimSeven
namespace Go.Proofs.YtjckoflcjkajiaaDoor
namespace Rows

/-- THE TIED CARD OF 'penumbralaw03.WaveFirst'. -/
def waveFirstCard : Claim7 := { stood := { row := waveFirstRow, standIns := [], harness := (true, "b54cce4f57ec81f22beeeafaa65d9d6422655a5f4340d96354a144736b3704c6"), looks := false }, kinds := [], alts := [], laidByText := true, laidKinds := [.data, .data], laidTests := true, laidLooks := .later }
def WaveFirstCardSaid : Prop := Claim7.holds Tryd.pinned (.plain (OpenSpec.ofChange waveFirstSpec)) waveFirstCard

/-- THE TIED CARD OF 'penumbralaw03.WaveThereBack'. -/
def waveThereBackCard : Claim7 := { stood := { row := waveThereBackRow, standIns := [], harness := (true, "b54cce4f57ec81f22beeeafaa65d9d6422655a5f4340d96354a144736b3704c6"), looks := false }, kinds := [], alts := [], laidByText := true, laidKinds := [.data, .data], laidTests := true, laidLooks := .later }
def WaveThereBackCardSaid : Prop := Claim7.holds Tryd.pinned (.plain (OpenSpec.ofChange waveThereBackSpec)) waveThereBackCard

/-- THE TIED CARD OF 'penumbralaw16.FilterWeights'. -/
def filterWeightsCard : Claim7 := { stood := { row := filterWeightsRow, standIns := [], harness := (true, "b54cce4f57ec81f22beeeafaa65d9d6422655a5f4340d96354a144736b3704c6"), looks := false }, kinds := [], alts := [], laidByText := true, laidKinds := [.data, .data], laidTests := true, laidLooks := .later }
def FilterWeightsCardSaid : Prop := Claim7.holds Tryd.pinned (.plain (OpenSpec.ofChange filterWeightsSpec)) filterWeightsCard

/-- THE TIED CARD OF 'penumbralaw16.FilterFlat'. -/
def filterFlatCard : Claim7 := { stood := { row := filterFlatRow, standIns := [], harness := (true, "b54cce4f57ec81f22beeeafaa65d9d6422655a5f4340d96354a144736b3704c6"), looks := false }, kinds := [], alts := [], laidByText := true, laidKinds := [.data, .data], laidTests := true, laidLooks := .later }
def FilterFlatCardSaid : Prop := Claim7.holds Tryd.pinned (.plain (OpenSpec.ofChange filterFlatSpec)) filterFlatCard

/-- THE SECOND FORM's CARD OF 'penumbralaw03.WaveFirst'. -/
def waveFirstUptoCard : Claim7 := { stood := { row := waveFirstUptoRow, standIns := [], harness := (true, "b54cce4f57ec81f22beeeafaa65d9d6422655a5f4340d96354a144736b3704c6"), looks := false }, kinds := [], alts := [], laidByText := true, laidKinds := [.data, .data], laidTests := true, laidLooks := .later }
def WaveFirstUptoCardSaid : Prop := Claim7.holds Tryd.pinned (.plain (OpenSpec.upto waveFirstSpec)) waveFirstUptoCard

/-- THE SECOND FORM's CARD OF 'penumbralaw03.WaveThereBack'. -/
def waveThereBackUptoCard : Claim7 := { stood := { row := waveThereBackUptoRow, standIns := [], harness := (true, "b54cce4f57ec81f22beeeafaa65d9d6422655a5f4340d96354a144736b3704c6"), looks := false }, kinds := [], alts := [], laidByText := true, laidKinds := [.data, .data], laidTests := true, laidLooks := .later }
def WaveThereBackUptoCardSaid : Prop := Claim7.holds Tryd.pinned (.plain (OpenSpec.upto waveThereBackSpec)) waveThereBackUptoCard

/-- THE SECOND FORM's CARD OF 'penumbralaw16.FilterWeights'. -/
def filterWeightsUptoCard : Claim7 := { stood := { row := filterWeightsUptoRow, standIns := [], harness := (true, "b54cce4f57ec81f22beeeafaa65d9d6422655a5f4340d96354a144736b3704c6"), looks := false }, kinds := [], alts := [], laidByText := true, laidKinds := [.data, .data], laidTests := true, laidLooks := .later }
def FilterWeightsUptoCardSaid : Prop := Claim7.holds Tryd.pinned (.plain (OpenSpec.upto filterWeightsSpec)) filterWeightsUptoCard

/-- THE SECOND FORM's CARD OF 'penumbralaw16.FilterFlat'. -/
def filterFlatUptoCard : Claim7 := { stood := { row := filterFlatUptoRow, standIns := [], harness := (true, "b54cce4f57ec81f22beeeafaa65d9d6422655a5f4340d96354a144736b3704c6"), looks := false }, kinds := [], alts := [], laidByText := true, laidKinds := [.data, .data], laidTests := true, laidLooks := .later }
def FilterFlatUptoCardSaid : Prop := Claim7.holds Tryd.pinned (.plain (OpenSpec.upto filterFlatSpec)) filterFlatUptoCard
end Rows
end Go.Proofs.YtjckoflcjkajiaaDoor
