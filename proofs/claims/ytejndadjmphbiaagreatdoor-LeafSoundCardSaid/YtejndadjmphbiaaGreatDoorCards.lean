/-
  DERIVED. GIVEN WITH THE SEED: THE CARDS: each row of YtejndadjmphbiaaGreatDoorRows.lean that lists a variable, with what it lists TIED to the program's text (the seventh form; the later family's looks); each row that meets fmt, with fmt's text TOLD by the authors' own Lean function (tested against real Go, not proved from fmt's source: count such statements apart). THE CARD IS WHAT COUNTS. Prove the row's statement (the work); the ties are given (YtejndadjmphbiaaGreatDoorTie.lean); close each card by the builder's one call (the guide's Derived/Test/ToyasCard.lean, 'card_holds'). Laid BY PROGRAM, IN A SANDBOX (cutbox-door.mjs). By AI agents, Wed Nov 11 2026. No macro, syntax, notation, axiom, sorry.
-/
import Derived.Test.YtejndadjmphbiaaGreatDoorRows
import GoSem.ClaimSeven
namespace Go.Proofs.YtejndadjmphbiaaGreatDoor
namespace Rows

/-- THE TIED CARD OF 'victuallerlaw14.LeafSound'. -/
def leafSoundCard : Claim7 := { stood := { row := leafSoundRow, standIns := [], harness := (true, "02b301150b452a7e0d3c8156605356cf240ae07ca100afb6dca7df706bbc7ac0"), looks := true }, kinds := [], alts := [], laidByText := true, laidKinds := [.data, .data, .data, .data, .sentinel, .sentinel, .pinned, .pinned], laidTests := true, laidLooks := .later }
def LeafSoundCardSaid : Prop := Claim7.holds Tryz.pinned (.plain (OpenSpec.ofChange leafSoundSpec)) leafSoundCard

/-- THE SECOND FORM's CARD OF 'victuallerlaw14.LeafSound'. -/
def leafSoundUptoCard : Claim7 := { stood := { row := leafSoundUptoRow, standIns := [], harness := (true, "02b301150b452a7e0d3c8156605356cf240ae07ca100afb6dca7df706bbc7ac0"), looks := true }, kinds := [], alts := [], laidByText := true, laidKinds := [.data, .data, .data, .data, .sentinel, .sentinel, .pinned, .pinned], laidTests := true, laidLooks := .later }
def LeafSoundUptoCardSaid : Prop := Claim7.holds Tryz.pinned (.plain (OpenSpec.upto leafSoundSpec)) leafSoundUptoCard
end Rows
end Go.Proofs.YtejndadjmphbiaaGreatDoor
