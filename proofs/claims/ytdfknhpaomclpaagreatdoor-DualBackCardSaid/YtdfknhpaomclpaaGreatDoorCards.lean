/-
  DERIVED. GIVEN WITH THE SEED: THE CARDS: each row of YtdfknhpaomclpaaGreatDoorRows.lean that lists a variable, with what it lists TIED to the program's text (the seventh form; the later family's looks); each row that meets fmt, with fmt's text TOLD by the authors' own Lean function (tested against real Go, not proved from fmt's source: count such statements apart). THE CARD IS WHAT COUNTS. Prove the row's statement (the work); the ties are given (YtdfknhpaomclpaaGreatDoorTie.lean); close each card by the builder's one call (the guide's Derived/Test/ToyasCard.lean, 'card_holds'). Laid BY PROGRAM, IN A SANDBOX (cutbox-door.mjs). By AI agents, Wed Nov 11 2026. No macro, syntax, notation, axiom, sorry.
-/
import Derived.Test.YtdfknhpaomclpaaGreatDoorRows
import GoSem.ClaimSeven
namespace Go.Proofs.YtdfknhpaomclpaaGreatDoor
namespace Rows

/-- THE TIED CARD OF 'victuallerlaw14.DualBack'. -/
def dualBackCard : Claim7 := { stood := { row := dualBackRow, standIns := [], harness := (true, "e3d3ca974c94208ffa299cb1e2fe9b396a7185234bdec4ebdea5c724caa91165"), looks := true }, kinds := [], alts := [], laidByText := true, laidKinds := [.data, .data, .data, .data, .sentinel, .sentinel, .pinned, .pinned], laidTests := true, laidLooks := .later }
def DualBackCardSaid : Prop := Claim7.holds Tryz.pinned (.plain (OpenSpec.ofChange dualBackSpec)) dualBackCard

/-- THE SECOND FORM's CARD OF 'victuallerlaw14.DualBack'. -/
def dualBackUptoCard : Claim7 := { stood := { row := dualBackUptoRow, standIns := [], harness := (true, "e3d3ca974c94208ffa299cb1e2fe9b396a7185234bdec4ebdea5c724caa91165"), looks := true }, kinds := [], alts := [], laidByText := true, laidKinds := [.data, .data, .data, .data, .sentinel, .sentinel, .pinned, .pinned], laidTests := true, laidLooks := .later }
def DualBackUptoCardSaid : Prop := Claim7.holds Tryz.pinned (.plain (OpenSpec.upto dualBackSpec)) dualBackUptoCard
end Rows
end Go.Proofs.YtdfknhpaomclpaaGreatDoor
