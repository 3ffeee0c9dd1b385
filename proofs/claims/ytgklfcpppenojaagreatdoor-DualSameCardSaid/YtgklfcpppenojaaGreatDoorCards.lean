/-
  DERIVED. GIVEN WITH THE SEED: THE CARDS: each row of YtgklfcpppenojaaGreatDoorRows.lean that lists a variable, with what it lists TIED to the program's text (the seventh form; the later family's looks); each row that meets fmt, with fmt's text TOLD by the authors' own Lean function (tested against real Go, not proved from fmt's source: count such statements apart). THE CARD IS WHAT COUNTS. Prove the row's statement (the work); the ties are given (YtgklfcpppenojaaGreatDoorTie.lean); close each card by the builder's one call (the guide's Derived/Test/ToyasCard.lean, 'card_holds'). Laid BY PROGRAM, IN A SANDBOX (cutbox-door.mjs). By AI agents, Wed Nov 11 2026. No macro, syntax, notation, axiom, sorry.
-/
import Derived.Test.YtgklfcpppenojaaGreatDoorRows
import GoSem.ClaimSeven
namespace Go.Proofs.YtgklfcpppenojaaGreatDoor
namespace Rows

/-- THE TIED CARD OF 'victuallerlaw14.DualSame'. -/
def dualSameCard : Claim7 := { stood := { row := dualSameRow, standIns := [], harness := (true, "b86ba07223808e59ff8ba45fc8bb9a0ff45d1415a00c50cc81fadfd35acfb128"), looks := true }, kinds := [], alts := [], laidByText := true, laidKinds := [.data, .data, .data, .data, .sentinel, .sentinel, .pinned, .pinned], laidTests := true, laidLooks := .later }
def DualSameCardSaid : Prop := Claim7.holds Tryz.pinned (.plain (OpenSpec.ofChange dualSameSpec)) dualSameCard

/-- THE SECOND FORM's CARD OF 'victuallerlaw14.DualSame'. -/
def dualSameUptoCard : Claim7 := { stood := { row := dualSameUptoRow, standIns := [], harness := (true, "b86ba07223808e59ff8ba45fc8bb9a0ff45d1415a00c50cc81fadfd35acfb128"), looks := true }, kinds := [], alts := [], laidByText := true, laidKinds := [.data, .data, .data, .data, .sentinel, .sentinel, .pinned, .pinned], laidTests := true, laidLooks := .later }
def DualSameUptoCardSaid : Prop := Claim7.holds Tryz.pinned (.plain (OpenSpec.upto dualSameSpec)) dualSameUptoCard
end Rows
end Go.Proofs.YtgklfcpppenojaaGreatDoor
