/-
  DERIVED. GIVEN WITH THE SEED: THE CARDS: each row of YtbholmodckdigaaGreatDoorRows.lean that lists a variable, with what it lists TIED to the program's text (the seventh form; the later family's looks); each row that meets fmt, with fmt's text TOLD by the authors' own Lean function (tested against real Go, not proved from fmt's source: count such statements apart). THE CARD IS WHAT COUNTS. Prove the row's statement (the work); the ties are given (YtbholmodckdigaaGreatDoorTie.lean); close each card by the builder's one call (the guide's Derived/Test/ToyasCard.lean, 'card_holds'). Laid BY PROGRAM, IN A SANDBOX (cutbox-door.mjs). By AI agents, Wed Nov 11 2026. No macro, syntax, notation, axiom, sorry.
-/
import Derived.Test.YtbholmodckdigaaGreatDoorRows
import GoSem.ClaimSeven
namespace Go.Proofs.YtbholmodckdigaaGreatDoor
namespace Rows

/-- THE TIED CARD OF 'victuallerlaw14.DualCopy'. -/
def dualCopyCard : Claim7 := { stood := { row := dualCopyRow, standIns := [], harness := (true, "f2f79fdfa2eb4997b6392d85f4b143aec3c3eb80998dfd4a71068f4574493929"), looks := true }, kinds := [], alts := [], laidByText := true, laidKinds := [.data, .data, .data, .data, .sentinel, .sentinel, .pinned, .pinned], laidTests := true, laidLooks := .later }
def DualCopyCardSaid : Prop := Claim7.holds Tryz.pinned (.plain (OpenSpec.ofChange dualCopySpec)) dualCopyCard

/-- THE SECOND FORM's CARD OF 'victuallerlaw14.DualCopy'. -/
def dualCopyUptoCard : Claim7 := { stood := { row := dualCopyUptoRow, standIns := [], harness := (true, "f2f79fdfa2eb4997b6392d85f4b143aec3c3eb80998dfd4a71068f4574493929"), looks := true }, kinds := [], alts := [], laidByText := true, laidKinds := [.data, .data, .data, .data, .sentinel, .sentinel, .pinned, .pinned], laidTests := true, laidLooks := .later }
def DualCopyUptoCardSaid : Prop := Claim7.holds Tryz.pinned (.plain (OpenSpec.upto dualCopySpec)) dualCopyUptoCard
end Rows
end Go.Proofs.YtbholmodckdigaaGreatDoor
