/-
  DERIVED. GIVEN WITH THE SEED: THE CARDS: each row of YtimhdfjkbgoncaaGreatDoorRows.lean that lists a variable, with what it lists TIED to the program's text (the seventh form; the later family's looks); each row that meets fmt, with fmt's text TOLD by the authors' own Lean function (tested against real Go, not proved from fmt's source: count such statements apart). THE CARD IS WHAT COUNTS. Prove the row's statement (the work); the ties are given (YtimhdfjkbgoncaaGreatDoorTie.lean); close each card by the builder's one call (the guide's Derived/Test/ToyasCard.lean, 'card_holds'). Laid BY PROGRAM, IN A SANDBOX (cutbox-door.mjs). By AI agents, Wed Nov 11 2026. No macro, syntax, notation, axiom, sorry.
-/
import Derived.Test.YtimhdfjkbgoncaaGreatDoorRows
import GoSem.ClaimSeven
namespace Go.Proofs.YtimhdfjkbgoncaaGreatDoor
namespace Rows

/-- THE TIED CARD OF 'victuallerlaw14.BasisOwn'. -/
def basisOwnCard : Claim7 := { stood := { row := basisOwnRow, standIns := [], harness := (true, "26463497322b78bc64cee8a4af8247591e931250eff717b8505e6cdf6c87dabe"), looks := true }, kinds := [], alts := [], laidByText := true, laidKinds := [.data, .data, .data, .data, .sentinel, .sentinel, .pinned, .pinned], laidTests := true, laidLooks := .later }
def BasisOwnCardSaid : Prop := Claim7.holds Tryz.pinned (.plain (OpenSpec.ofChange basisOwnSpec)) basisOwnCard

/-- THE SECOND FORM's CARD OF 'victuallerlaw14.BasisOwn'. -/
def basisOwnUptoCard : Claim7 := { stood := { row := basisOwnUptoRow, standIns := [], harness := (true, "26463497322b78bc64cee8a4af8247591e931250eff717b8505e6cdf6c87dabe"), looks := true }, kinds := [], alts := [], laidByText := true, laidKinds := [.data, .data, .data, .data, .sentinel, .sentinel, .pinned, .pinned], laidTests := true, laidLooks := .later }
def BasisOwnUptoCardSaid : Prop := Claim7.holds Tryz.pinned (.plain (OpenSpec.upto basisOwnSpec)) basisOwnUptoCard
end Rows
end Go.Proofs.YtimhdfjkbgoncaaGreatDoor
