/-
  DERIVED. GIVEN WITH THE SEED: THE CARDS: each row of YtcdpdaildggfiaaGreatDoorRows.lean that lists a variable, with what it lists TIED to the program's text (the seventh form; the later family's looks); each row that meets fmt, with fmt's text TOLD by the authors' own Lean function (tested against real Go, not proved from fmt's source: count such statements apart). THE CARD IS WHAT COUNTS. Prove the row's statement (the work); the ties are given (YtcdpdaildggfiaaGreatDoorTie.lean); close each card by the builder's one call (the guide's Derived/Test/ToyasCard.lean, 'card_holds'). Laid BY PROGRAM, IN A SANDBOX (cutbox-door.mjs). By AI agents, Wed Nov 11 2026. No macro, syntax, notation, axiom, sorry.
-/
import Derived.Test.YtcdpdaildggfiaaGreatDoorRows
import GoSem.ClaimSeven
namespace Go.Proofs.YtcdpdaildggfiaaGreatDoor
namespace Rows

/-- THE TIED CARD OF 'victuallerlaw14.ProbOwn'. -/
def probOwnCard : Claim7 := { stood := { row := probOwnRow, standIns := [], harness := (true, "1115974c92a02009d1e46fb20851c38172de8c32f13dcd9e6da9c2cfbc821a10"), looks := true }, kinds := [], alts := [], laidByText := true, laidKinds := [.data, .data, .data, .data, .sentinel, .sentinel, .pinned, .pinned], laidTests := true, laidLooks := .later }
def ProbOwnCardSaid : Prop := Claim7.holds Tryz.pinned (.plain (OpenSpec.ofChange probOwnSpec)) probOwnCard

/-- THE SECOND FORM's CARD OF 'victuallerlaw14.ProbOwn'. -/
def probOwnUptoCard : Claim7 := { stood := { row := probOwnUptoRow, standIns := [], harness := (true, "1115974c92a02009d1e46fb20851c38172de8c32f13dcd9e6da9c2cfbc821a10"), looks := true }, kinds := [], alts := [], laidByText := true, laidKinds := [.data, .data, .data, .data, .sentinel, .sentinel, .pinned, .pinned], laidTests := true, laidLooks := .later }
def ProbOwnUptoCardSaid : Prop := Claim7.holds Tryz.pinned (.plain (OpenSpec.upto probOwnSpec)) probOwnUptoCard
end Rows
end Go.Proofs.YtcdpdaildggfiaaGreatDoor
