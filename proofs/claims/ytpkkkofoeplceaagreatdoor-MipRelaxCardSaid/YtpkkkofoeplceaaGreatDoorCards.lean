/-
  DERIVED. GIVEN WITH THE SEED: THE CARDS: each row of YtpkkkofoeplceaaGreatDoorRows.lean that lists a variable, with what it lists TIED to the program's text (the seventh form; the later family's looks); each row that meets fmt, with fmt's text TOLD by the authors' own Lean function (tested against real Go, not proved from fmt's source: count such statements apart). THE CARD IS WHAT COUNTS. Prove the row's statement (the work); the ties are given (YtpkkkofoeplceaaGreatDoorTie.lean); close each card by the builder's one call (the guide's Derived/Test/ToyasCard.lean, 'card_holds'). Laid BY PROGRAM, IN A SANDBOX (cutbox-door.mjs). By AI agents, Wed Nov 11 2026. No macro, syntax, notation, axiom, sorry.
-/
import Derived.Test.YtpkkkofoeplceaaGreatDoorRows
import GoSem.ClaimSeven
namespace Go.Proofs.YtpkkkofoeplceaaGreatDoor
namespace Rows

/-- THE TIED CARD OF 'victuallerlaw14.MipRelax'. -/
def mipRelaxCard : Claim7 := { stood := { row := mipRelaxRow, standIns := [], harness := (true, "2d151602a5ab21702738105da1cb607836cbc7bde8c0f7f52c8b16be184793e5"), looks := true }, kinds := [], alts := [], laidByText := true, laidKinds := [.data, .data, .data, .data, .sentinel, .sentinel, .pinned, .pinned], laidTests := true, laidLooks := .later }
def MipRelaxCardSaid : Prop := Claim7.holds Tryz.pinned (.plain (OpenSpec.ofChange mipRelaxSpec)) mipRelaxCard

/-- THE SECOND FORM's CARD OF 'victuallerlaw14.MipRelax'. -/
def mipRelaxUptoCard : Claim7 := { stood := { row := mipRelaxUptoRow, standIns := [], harness := (true, "2d151602a5ab21702738105da1cb607836cbc7bde8c0f7f52c8b16be184793e5"), looks := true }, kinds := [], alts := [], laidByText := true, laidKinds := [.data, .data, .data, .data, .sentinel, .sentinel, .pinned, .pinned], laidTests := true, laidLooks := .later }
def MipRelaxUptoCardSaid : Prop := Claim7.holds Tryz.pinned (.plain (OpenSpec.upto mipRelaxSpec)) mipRelaxUptoCard
end Rows
end Go.Proofs.YtpkkkofoeplceaaGreatDoor
