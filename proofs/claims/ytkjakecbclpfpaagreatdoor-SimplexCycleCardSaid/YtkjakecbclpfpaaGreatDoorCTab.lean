/- The functions that the self-test reaches. -/
import Derived.Test.YtkjakecbclpfpaaGreatDoorCDamA
import Derived.Test.YtkjakecbclpfpaaGreatDoorProg
namespace Go.Dam.Tab
open Go Go.Dam Go.Proofs
set_option maxRecDepth 1000000
def gu:Nat->Bool:=λg=>Nat.beq g 1
def ext(k:Nat):Bool:=Nat.ble 442 k||(Nat.beq k 0||Nat.beq k 1||Nat.beq k 303||Nat.beq k 375||Nat.beq k 376||Nat.beq k 377||Nat.beq k 391)
structure M3 where
 o:Option bg
noncomputable def abJ(f:Nat):M3:=⟨bif ext f then none else(Tryz.prog.funcs.toList[f]?).map (ox Tryz.prog gu)⟩
noncomputable def M4(f:Nat):Option bg:=(abJ f).o
end Go.Dam.Tab
