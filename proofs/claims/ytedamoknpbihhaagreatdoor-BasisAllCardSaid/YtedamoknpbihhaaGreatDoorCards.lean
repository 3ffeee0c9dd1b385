/-
  DERIVED. GIVEN WITH THE SEED: THE CARDS: each row of YtedamoknpbihhaaGreatDoorRows.lean that lists a variable, with what it lists TIED to the program's text (the seventh form; the later family's looks); each row that meets fmt, with fmt's text TOLD by the authors' own Lean function (tested against real Go, not proved from fmt's source: count such statements apart). THE CARD IS WHAT COUNTS. Prove the row's statement (the work); the ties are given (YtedamoknpbihhaaGreatDoorTie.lean); close each card by the builder's one call (the guide's Derived/Test/ToyasCard.lean, 'card_holds'). Laid BY PROGRAM, IN A SANDBOX (cutbox-door.mjs). By AI agents, Wed Nov 11 2026. No macro, syntax, notation, axiom, sorry.
-/
import Derived.Test.YtedamoknpbihhaaGreatDoorRows
import GoSem.ClaimSeven
namespace Go.Proofs.YtedamoknpbihhaaGreatDoor
namespace Rows

/-- THE TIED CARD OF 'victuallerlaw14.BasisAll'. -/
def basisAllCard : Claim7 := { stood := { row := basisAllRow, standIns := [], harness := (true, "83fbbcbf75f2269168bde056b2e2ca1141a05d55314a792190f38fc8a5aa6a7a"), looks := true }, kinds := [], alts := [], laidByText := true, laidKinds := [.data, .data, .data, .data, .sentinel, .sentinel, .pinned, .pinned], laidTests := true, laidLooks := .later }
def BasisAllCardSaid : Prop := Claim7.holds Tryz.pinned (.plain (OpenSpec.ofChange basisAllSpec)) basisAllCard

/-- THE SECOND FORM's CARD OF 'victuallerlaw14.BasisAll'. -/
def basisAllUptoCard : Claim7 := { stood := { row := basisAllUptoRow, standIns := [], harness := (true, "83fbbcbf75f2269168bde056b2e2ca1141a05d55314a792190f38fc8a5aa6a7a"), looks := true }, kinds := [], alts := [], laidByText := true, laidKinds := [.data, .data, .data, .data, .sentinel, .sentinel, .pinned, .pinned], laidTests := true, laidLooks := .later }
def BasisAllUptoCardSaid : Prop := Claim7.holds Tryz.pinned (.plain (OpenSpec.upto basisAllSpec)) basisAllUptoCard
end Rows
end Go.Proofs.YtedamoknpbihhaaGreatDoor
