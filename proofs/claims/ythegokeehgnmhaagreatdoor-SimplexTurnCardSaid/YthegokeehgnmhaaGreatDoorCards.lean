/-
  DERIVED. GIVEN WITH THE SEED: THE CARDS: each row of YthegokeehgnmhaaGreatDoorRows.lean that lists a variable, with what it lists TIED to the program's text (the seventh form; the later family's looks); each row that meets fmt, with fmt's text TOLD by the authors' own Lean function (tested against real Go, not proved from fmt's source: count such statements apart). THE CARD IS WHAT COUNTS. Prove the row's statement (the work); the ties are given (YthegokeehgnmhaaGreatDoorTie.lean); close each card by the builder's one call (the guide's Derived/Test/ToyasCard.lean, 'card_holds'). Laid BY PROGRAM, IN A SANDBOX (cutbox-door.mjs). By AI agents, Wed Nov 11 2026. No macro, syntax, notation, axiom, sorry.
-/
import Derived.Test.YthegokeehgnmhaaGreatDoorRows
import GoSem.ClaimSeven
namespace Go.Proofs.YthegokeehgnmhaaGreatDoor
namespace Rows

/-- THE TIED CARD OF 'victuallerlaw14.SimplexTurn'. -/
def simplexTurnCard : Claim7 := { stood := { row := simplexTurnRow, standIns := [], harness := (true, "8cd1c7669ed7dfac2f2a39b1bd8f42efcd6aaf67f22d92ec38a7c30a364e8a85"), looks := true }, kinds := [], alts := [], laidByText := true, laidKinds := [.data, .data, .data, .data, .sentinel, .sentinel, .pinned, .pinned], laidTests := true, laidLooks := .later }
def SimplexTurnCardSaid : Prop := Claim7.holds Tryz.pinned (.plain (OpenSpec.ofChange simplexTurnSpec)) simplexTurnCard

/-- THE SECOND FORM's CARD OF 'victuallerlaw14.SimplexTurn'. -/
def simplexTurnUptoCard : Claim7 := { stood := { row := simplexTurnUptoRow, standIns := [], harness := (true, "8cd1c7669ed7dfac2f2a39b1bd8f42efcd6aaf67f22d92ec38a7c30a364e8a85"), looks := true }, kinds := [], alts := [], laidByText := true, laidKinds := [.data, .data, .data, .data, .sentinel, .sentinel, .pinned, .pinned], laidTests := true, laidLooks := .later }
def SimplexTurnUptoCardSaid : Prop := Claim7.holds Tryz.pinned (.plain (OpenSpec.upto simplexTurnSpec)) simplexTurnUptoCard
end Rows
end Go.Proofs.YthegokeehgnmhaaGreatDoor
