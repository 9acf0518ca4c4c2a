/-
  DERIVED. GIVEN WITH THE SEED: THE CARDS: each row of YthecbhegjdcjfaaDoorRows.lean that lists a variable, with what it lists TIED to the program's text (the seventh form; the later family's looks); each row that meets fmt, with fmt's text TOLD by the authors' own Lean function (tested against real Go, not proved from fmt's source: count such statements apart). THE CARD IS WHAT COUNTS. Prove the row's statement (the work); the ties are given (YthecbhegjdcjfaaDoorTie.lean); close each card by the builder's one call (the guide's Derived/Test/ToyasCard.lean, 'card_holds'). Laid BY PROGRAM, IN A SANDBOX (cutbox-door.mjs). By AI agents, Wed Nov 11 2026. No macro, syntax, notation, axiom, sorry.
-/
import Derived.Test.YthecbhegjdcjfaaDoorRows
import GoSem.ClaimSeven
namespace Go.Proofs.YthecbhegjdcjfaaDoor
namespace Rows

/-- THE TIED CARD OF 'penumbralaw04.PlaneMoves'. -/
def planeMovesCard : Claim7 := { stood := { row := planeMovesRow, standIns := [], harness := (true, "41c25213db0fafb11fcf54c95ca3e5b3cafd57c4126f76aaf893e434c2702e61"), looks := false }, kinds := [], alts := [], laidByText := true, laidKinds := [.data, .data], laidTests := true, laidLooks := .later }
def PlaneMovesCardSaid : Prop := Claim7.holds Tryd.pinned (.plain (OpenSpec.ofChange planeMovesSpec)) planeMovesCard

/-- THE TIED CARD OF 'penumbralaw04.PlaneThereBack'. -/
def planeThereBackCard : Claim7 := { stood := { row := planeThereBackRow, standIns := [], harness := (true, "41c25213db0fafb11fcf54c95ca3e5b3cafd57c4126f76aaf893e434c2702e61"), looks := false }, kinds := [], alts := [], laidByText := true, laidKinds := [.data, .data], laidTests := true, laidLooks := .later }
def PlaneThereBackCardSaid : Prop := Claim7.holds Tryd.pinned (.plain (OpenSpec.ofChange planeThereBackSpec)) planeThereBackCard

/-- THE SECOND FORM's CARD OF 'penumbralaw04.PlaneMoves'. -/
def planeMovesUptoCard : Claim7 := { stood := { row := planeMovesUptoRow, standIns := [], harness := (true, "41c25213db0fafb11fcf54c95ca3e5b3cafd57c4126f76aaf893e434c2702e61"), looks := false }, kinds := [], alts := [], laidByText := true, laidKinds := [.data, .data], laidTests := true, laidLooks := .later }
def PlaneMovesUptoCardSaid : Prop := Claim7.holds Tryd.pinned (.plain (OpenSpec.upto planeMovesSpec)) planeMovesUptoCard

/-- THE SECOND FORM's CARD OF 'penumbralaw04.PlaneThereBack'. -/
def planeThereBackUptoCard : Claim7 := { stood := { row := planeThereBackUptoRow, standIns := [], harness := (true, "41c25213db0fafb11fcf54c95ca3e5b3cafd57c4126f76aaf893e434c2702e61"), looks := false }, kinds := [], alts := [], laidByText := true, laidKinds := [.data, .data], laidTests := true, laidLooks := .later }
def PlaneThereBackUptoCardSaid : Prop := Claim7.holds Tryd.pinned (.plain (OpenSpec.upto planeThereBackSpec)) planeThereBackUptoCard
end Rows
end Go.Proofs.YthecbhegjdcjfaaDoor
