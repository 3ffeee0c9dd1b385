/-
  DERIVED. GIVEN WITH THE SEED: THE CARDS: each row of YtkjakecbclpfpaaGreatDoorRows.lean that lists a variable, with what it lists TIED to the program's text (the seventh form; the later family's looks); each row that meets fmt, with fmt's text TOLD by the authors' own Lean function (tested against real Go, not proved from fmt's source: count such statements apart). THE CARD IS WHAT COUNTS. Prove the row's statement (the work); the ties are given (YtkjakecbclpfpaaGreatDoorTie.lean); close each card by the builder's one call (the guide's Derived/Test/ToyasCard.lean, 'card_holds'). Laid BY PROGRAM, IN A SANDBOX (cutbox-door.mjs). By AI agents, Wed Nov 11 2026. No macro, syntax, notation, axiom, sorry.
-/
import Derived.Test.YtkjakecbclpfpaaGreatDoorRows
import GoSem.ClaimSeven
namespace Go.Proofs.YtkjakecbclpfpaaGreatDoor
namespace Rows

/-- THE TIED CARD OF 'victuallerlaw14.SimplexMore'. -/
def simplexMoreCard : Claim7 := { stood := { row := simplexMoreRow, standIns := [], harness := (true, "a8c366553de67c5e58aab04f763a7b7943e6bf0b911aa29d14280bc99b2dd408"), looks := true }, kinds := [], alts := [], laidByText := true, laidKinds := [.data, .data, .data, .data, .sentinel, .sentinel, .pinned, .pinned], laidTests := true, laidLooks := .later }
def SimplexMoreCardSaid : Prop := Claim7.holds Tryz.pinned (.plain (OpenSpec.ofChange simplexMoreSpec)) simplexMoreCard

/-- THE TIED CARD OF 'victuallerlaw14.SimplexCycle'. -/
def simplexCycleCard : Claim7 := { stood := { row := simplexCycleRow, standIns := [], harness := (true, "a8c366553de67c5e58aab04f763a7b7943e6bf0b911aa29d14280bc99b2dd408"), looks := true }, kinds := [], alts := [], laidByText := true, laidKinds := [.data, .data, .data, .data, .sentinel, .sentinel, .pinned, .pinned], laidTests := true, laidLooks := .later }
def SimplexCycleCardSaid : Prop := Claim7.holds Tryz.pinned (.plain (OpenSpec.ofChange simplexCycleSpec)) simplexCycleCard

/-- THE TIED CARD OF 'victuallerlaw14.MipEqual'. -/
def mipEqualCard : Claim7 := { stood := { row := mipEqualRow, standIns := [], harness := (true, "a8c366553de67c5e58aab04f763a7b7943e6bf0b911aa29d14280bc99b2dd408"), looks := true }, kinds := [], alts := [], laidByText := true, laidKinds := [.data, .data, .data, .data, .sentinel, .sentinel, .pinned, .pinned], laidTests := true, laidLooks := .later }
def MipEqualCardSaid : Prop := Claim7.holds Tryz.pinned (.plain (OpenSpec.ofChange mipEqualSpec)) mipEqualCard

/-- THE TIED CARD OF 'victuallerlaw14.MipPack'. -/
def mipPackCard : Claim7 := { stood := { row := mipPackRow, standIns := [], harness := (true, "a8c366553de67c5e58aab04f763a7b7943e6bf0b911aa29d14280bc99b2dd408"), looks := true }, kinds := [], alts := [], laidByText := true, laidKinds := [.data, .data, .data, .data, .sentinel, .sentinel, .pinned, .pinned], laidTests := true, laidLooks := .later }
def MipPackCardSaid : Prop := Claim7.holds Tryz.pinned (.plain (OpenSpec.ofChange mipPackSpec)) mipPackCard

/-- THE TIED CARD OF 'victuallerlaw14.SimplexBox'. -/
def simplexBoxCard : Claim7 := { stood := { row := simplexBoxRow, standIns := [], harness := (true, "a8c366553de67c5e58aab04f763a7b7943e6bf0b911aa29d14280bc99b2dd408"), looks := true }, kinds := [], alts := [], laidByText := true, laidKinds := [.data, .data, .data, .data, .sentinel, .sentinel, .pinned, .pinned], laidTests := true, laidLooks := .later }
def SimplexBoxCardSaid : Prop := Claim7.holds Tryz.pinned (.plain (OpenSpec.ofChange simplexBoxSpec)) simplexBoxCard

/-- THE TIED CARD OF 'victuallerlaw14.SimplexRow'. -/
def simplexRowCard : Claim7 := { stood := { row := simplexRowRow, standIns := [], harness := (true, "a8c366553de67c5e58aab04f763a7b7943e6bf0b911aa29d14280bc99b2dd408"), looks := true }, kinds := [], alts := [], laidByText := true, laidKinds := [.data, .data, .data, .data, .sentinel, .sentinel, .pinned, .pinned], laidTests := true, laidLooks := .later }
def SimplexRowCardSaid : Prop := Claim7.holds Tryz.pinned (.plain (OpenSpec.ofChange simplexRowSpec)) simplexRowCard

/-- THE TIED CARD OF 'victuallerlaw14.SimplexTwice'. -/
def simplexTwiceCard : Claim7 := { stood := { row := simplexTwiceRow, standIns := [], harness := (true, "a8c366553de67c5e58aab04f763a7b7943e6bf0b911aa29d14280bc99b2dd408"), looks := true }, kinds := [], alts := [], laidByText := true, laidKinds := [.data, .data, .data, .data, .sentinel, .sentinel, .pinned, .pinned], laidTests := true, laidLooks := .later }
def SimplexTwiceCardSaid : Prop := Claim7.holds Tryz.pinned (.plain (OpenSpec.ofChange simplexTwiceSpec)) simplexTwiceCard

/-- THE TIED CARD OF 'victuallerlaw14.SimplexShift'. -/
def simplexShiftCard : Claim7 := { stood := { row := simplexShiftRow, standIns := [], harness := (true, "a8c366553de67c5e58aab04f763a7b7943e6bf0b911aa29d14280bc99b2dd408"), looks := true }, kinds := [], alts := [], laidByText := true, laidKinds := [.data, .data, .data, .data, .sentinel, .sentinel, .pinned, .pinned], laidTests := true, laidLooks := .later }
def SimplexShiftCardSaid : Prop := Claim7.holds Tryz.pinned (.plain (OpenSpec.ofChange simplexShiftSpec)) simplexShiftCard

/-- THE TIED CARD OF 'victuallerlaw14.SimplexScale'. -/
def simplexScaleCard : Claim7 := { stood := { row := simplexScaleRow, standIns := [], harness := (true, "a8c366553de67c5e58aab04f763a7b7943e6bf0b911aa29d14280bc99b2dd408"), looks := true }, kinds := [], alts := [], laidByText := true, laidKinds := [.data, .data, .data, .data, .sentinel, .sentinel, .pinned, .pinned], laidTests := true, laidLooks := .later }
def SimplexScaleCardSaid : Prop := Claim7.holds Tryz.pinned (.plain (OpenSpec.ofChange simplexScaleSpec)) simplexScaleCard

/-- THE TIED CARD OF 'victuallerlaw14.LeafShape'. -/
def leafShapeCard : Claim7 := { stood := { row := leafShapeRow, standIns := [], harness := (true, "a8c366553de67c5e58aab04f763a7b7943e6bf0b911aa29d14280bc99b2dd408"), looks := true }, kinds := [], alts := [], laidByText := true, laidKinds := [.data, .data, .data, .data, .sentinel, .sentinel, .pinned, .pinned], laidTests := true, laidLooks := .later }
def LeafShapeCardSaid : Prop := Claim7.holds Tryz.pinned (.plain (OpenSpec.ofChange leafShapeSpec)) leafShapeCard

/-- THE TIED CARD OF 'victuallerlaw14.DualMany'. -/
def dualManyCard : Claim7 := { stood := { row := dualManyRow, standIns := [], harness := (true, "a8c366553de67c5e58aab04f763a7b7943e6bf0b911aa29d14280bc99b2dd408"), looks := true }, kinds := [], alts := [], laidByText := true, laidKinds := [.data, .data, .data, .data, .sentinel, .sentinel, .pinned, .pinned], laidTests := true, laidLooks := .later }
def DualManyCardSaid : Prop := Claim7.holds Tryz.pinned (.plain (OpenSpec.ofChange dualManySpec)) dualManyCard

/-- THE TIED CARD OF 'victuallerlaw14.MipBox'. -/
def mipBoxCard : Claim7 := { stood := { row := mipBoxRow, standIns := [], harness := (true, "a8c366553de67c5e58aab04f763a7b7943e6bf0b911aa29d14280bc99b2dd408"), looks := true }, kinds := [], alts := [], laidByText := true, laidKinds := [.data, .data, .data, .data, .sentinel, .sentinel, .pinned, .pinned], laidTests := true, laidLooks := .later }
def MipBoxCardSaid : Prop := Claim7.holds Tryz.pinned (.plain (OpenSpec.ofChange mipBoxSpec)) mipBoxCard

/-- THE SECOND FORM's CARD OF 'victuallerlaw14.SimplexMore'. -/
def simplexMoreUptoCard : Claim7 := { stood := { row := simplexMoreUptoRow, standIns := [], harness := (true, "a8c366553de67c5e58aab04f763a7b7943e6bf0b911aa29d14280bc99b2dd408"), looks := true }, kinds := [], alts := [], laidByText := true, laidKinds := [.data, .data, .data, .data, .sentinel, .sentinel, .pinned, .pinned], laidTests := true, laidLooks := .later }
def SimplexMoreUptoCardSaid : Prop := Claim7.holds Tryz.pinned (.plain (OpenSpec.upto simplexMoreSpec)) simplexMoreUptoCard

/-- THE SECOND FORM's CARD OF 'victuallerlaw14.SimplexCycle'. -/
def simplexCycleUptoCard : Claim7 := { stood := { row := simplexCycleUptoRow, standIns := [], harness := (true, "a8c366553de67c5e58aab04f763a7b7943e6bf0b911aa29d14280bc99b2dd408"), looks := true }, kinds := [], alts := [], laidByText := true, laidKinds := [.data, .data, .data, .data, .sentinel, .sentinel, .pinned, .pinned], laidTests := true, laidLooks := .later }
def SimplexCycleUptoCardSaid : Prop := Claim7.holds Tryz.pinned (.plain (OpenSpec.upto simplexCycleSpec)) simplexCycleUptoCard

/-- THE SECOND FORM's CARD OF 'victuallerlaw14.MipEqual'. -/
def mipEqualUptoCard : Claim7 := { stood := { row := mipEqualUptoRow, standIns := [], harness := (true, "a8c366553de67c5e58aab04f763a7b7943e6bf0b911aa29d14280bc99b2dd408"), looks := true }, kinds := [], alts := [], laidByText := true, laidKinds := [.data, .data, .data, .data, .sentinel, .sentinel, .pinned, .pinned], laidTests := true, laidLooks := .later }
def MipEqualUptoCardSaid : Prop := Claim7.holds Tryz.pinned (.plain (OpenSpec.upto mipEqualSpec)) mipEqualUptoCard

/-- THE SECOND FORM's CARD OF 'victuallerlaw14.MipPack'. -/
def mipPackUptoCard : Claim7 := { stood := { row := mipPackUptoRow, standIns := [], harness := (true, "a8c366553de67c5e58aab04f763a7b7943e6bf0b911aa29d14280bc99b2dd408"), looks := true }, kinds := [], alts := [], laidByText := true, laidKinds := [.data, .data, .data, .data, .sentinel, .sentinel, .pinned, .pinned], laidTests := true, laidLooks := .later }
def MipPackUptoCardSaid : Prop := Claim7.holds Tryz.pinned (.plain (OpenSpec.upto mipPackSpec)) mipPackUptoCard

/-- THE SECOND FORM's CARD OF 'victuallerlaw14.SimplexBox'. -/
def simplexBoxUptoCard : Claim7 := { stood := { row := simplexBoxUptoRow, standIns := [], harness := (true, "a8c366553de67c5e58aab04f763a7b7943e6bf0b911aa29d14280bc99b2dd408"), looks := true }, kinds := [], alts := [], laidByText := true, laidKinds := [.data, .data, .data, .data, .sentinel, .sentinel, .pinned, .pinned], laidTests := true, laidLooks := .later }
def SimplexBoxUptoCardSaid : Prop := Claim7.holds Tryz.pinned (.plain (OpenSpec.upto simplexBoxSpec)) simplexBoxUptoCard

/-- THE SECOND FORM's CARD OF 'victuallerlaw14.SimplexRow'. -/
def simplexRowUptoCard : Claim7 := { stood := { row := simplexRowUptoRow, standIns := [], harness := (true, "a8c366553de67c5e58aab04f763a7b7943e6bf0b911aa29d14280bc99b2dd408"), looks := true }, kinds := [], alts := [], laidByText := true, laidKinds := [.data, .data, .data, .data, .sentinel, .sentinel, .pinned, .pinned], laidTests := true, laidLooks := .later }
def SimplexRowUptoCardSaid : Prop := Claim7.holds Tryz.pinned (.plain (OpenSpec.upto simplexRowSpec)) simplexRowUptoCard

/-- THE SECOND FORM's CARD OF 'victuallerlaw14.SimplexTwice'. -/
def simplexTwiceUptoCard : Claim7 := { stood := { row := simplexTwiceUptoRow, standIns := [], harness := (true, "a8c366553de67c5e58aab04f763a7b7943e6bf0b911aa29d14280bc99b2dd408"), looks := true }, kinds := [], alts := [], laidByText := true, laidKinds := [.data, .data, .data, .data, .sentinel, .sentinel, .pinned, .pinned], laidTests := true, laidLooks := .later }
def SimplexTwiceUptoCardSaid : Prop := Claim7.holds Tryz.pinned (.plain (OpenSpec.upto simplexTwiceSpec)) simplexTwiceUptoCard

/-- THE SECOND FORM's CARD OF 'victuallerlaw14.SimplexShift'. -/
def simplexShiftUptoCard : Claim7 := { stood := { row := simplexShiftUptoRow, standIns := [], harness := (true, "a8c366553de67c5e58aab04f763a7b7943e6bf0b911aa29d14280bc99b2dd408"), looks := true }, kinds := [], alts := [], laidByText := true, laidKinds := [.data, .data, .data, .data, .sentinel, .sentinel, .pinned, .pinned], laidTests := true, laidLooks := .later }
def SimplexShiftUptoCardSaid : Prop := Claim7.holds Tryz.pinned (.plain (OpenSpec.upto simplexShiftSpec)) simplexShiftUptoCard

/-- THE SECOND FORM's CARD OF 'victuallerlaw14.SimplexScale'. -/
def simplexScaleUptoCard : Claim7 := { stood := { row := simplexScaleUptoRow, standIns := [], harness := (true, "a8c366553de67c5e58aab04f763a7b7943e6bf0b911aa29d14280bc99b2dd408"), looks := true }, kinds := [], alts := [], laidByText := true, laidKinds := [.data, .data, .data, .data, .sentinel, .sentinel, .pinned, .pinned], laidTests := true, laidLooks := .later }
def SimplexScaleUptoCardSaid : Prop := Claim7.holds Tryz.pinned (.plain (OpenSpec.upto simplexScaleSpec)) simplexScaleUptoCard

/-- THE SECOND FORM's CARD OF 'victuallerlaw14.LeafShape'. -/
def leafShapeUptoCard : Claim7 := { stood := { row := leafShapeUptoRow, standIns := [], harness := (true, "a8c366553de67c5e58aab04f763a7b7943e6bf0b911aa29d14280bc99b2dd408"), looks := true }, kinds := [], alts := [], laidByText := true, laidKinds := [.data, .data, .data, .data, .sentinel, .sentinel, .pinned, .pinned], laidTests := true, laidLooks := .later }
def LeafShapeUptoCardSaid : Prop := Claim7.holds Tryz.pinned (.plain (OpenSpec.upto leafShapeSpec)) leafShapeUptoCard

/-- THE SECOND FORM's CARD OF 'victuallerlaw14.DualMany'. -/
def dualManyUptoCard : Claim7 := { stood := { row := dualManyUptoRow, standIns := [], harness := (true, "a8c366553de67c5e58aab04f763a7b7943e6bf0b911aa29d14280bc99b2dd408"), looks := true }, kinds := [], alts := [], laidByText := true, laidKinds := [.data, .data, .data, .data, .sentinel, .sentinel, .pinned, .pinned], laidTests := true, laidLooks := .later }
def DualManyUptoCardSaid : Prop := Claim7.holds Tryz.pinned (.plain (OpenSpec.upto dualManySpec)) dualManyUptoCard

/-- THE SECOND FORM's CARD OF 'victuallerlaw14.MipBox'. -/
def mipBoxUptoCard : Claim7 := { stood := { row := mipBoxUptoRow, standIns := [], harness := (true, "a8c366553de67c5e58aab04f763a7b7943e6bf0b911aa29d14280bc99b2dd408"), looks := true }, kinds := [], alts := [], laidByText := true, laidKinds := [.data, .data, .data, .data, .sentinel, .sentinel, .pinned, .pinned], laidTests := true, laidLooks := .later }
def MipBoxUptoCardSaid : Prop := Claim7.holds Tryz.pinned (.plain (OpenSpec.upto mipBoxSpec)) mipBoxUptoCard
end Rows
end Go.Proofs.YtkjakecbclpfpaaGreatDoor
