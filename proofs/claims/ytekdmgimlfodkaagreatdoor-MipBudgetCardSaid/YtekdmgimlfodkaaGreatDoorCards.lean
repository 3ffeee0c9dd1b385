/-
  DERIVED. GIVEN WITH THE SEED: THE CARDS: each row of YtekdmgimlfodkaaGreatDoorRows.lean that lists a variable, with what it lists TIED to the program's text (the seventh form; the later family's looks); each row that meets fmt, with fmt's text TOLD by the authors' own Lean function (tested against real Go, not proved from fmt's source: count such statements apart). THE CARD IS WHAT COUNTS. Prove the row's statement (the work); the ties are given (YtekdmgimlfodkaaGreatDoorTie.lean); close each card by the builder's one call (the guide's Derived/Test/ToyasCard.lean, 'card_holds'). Laid BY PROGRAM, IN A SANDBOX (cutbox-door.mjs). By AI agents, Wed Nov 11 2026. No macro, syntax, notation, axiom, sorry.
-/
import Derived.Test.YtekdmgimlfodkaaGreatDoorRows
import GoSem.ClaimSeven
namespace Go.Proofs.YtekdmgimlfodkaaGreatDoor
namespace Rows

/-- THE TIED CARD OF 'victuallerlaw14.MipBudget'. -/
def mipBudgetCard : Claim7 := { stood := { row := mipBudgetRow, standIns := [], harness := (true, "95cc67a6403d4044cdd0f433b7dba5cbef29a3da3a6690312c22107f2c00971d"), looks := true }, kinds := [], alts := [], laidByText := true, laidKinds := [.data, .data, .data, .data, .sentinel, .sentinel, .pinned, .pinned], laidTests := true, laidLooks := .later }
def MipBudgetCardSaid : Prop := Claim7.holds Tryz.pinned (.plain (OpenSpec.ofChange mipBudgetSpec)) mipBudgetCard

/-- THE SECOND FORM's CARD OF 'victuallerlaw14.MipBudget'. -/
def mipBudgetUptoCard : Claim7 := { stood := { row := mipBudgetUptoRow, standIns := [], harness := (true, "95cc67a6403d4044cdd0f433b7dba5cbef29a3da3a6690312c22107f2c00971d"), looks := true }, kinds := [], alts := [], laidByText := true, laidKinds := [.data, .data, .data, .data, .sentinel, .sentinel, .pinned, .pinned], laidTests := true, laidLooks := .later }
def MipBudgetUptoCardSaid : Prop := Claim7.holds Tryz.pinned (.plain (OpenSpec.upto mipBudgetSpec)) mipBudgetUptoCard
end Rows
end Go.Proofs.YtekdmgimlfodkaaGreatDoor
