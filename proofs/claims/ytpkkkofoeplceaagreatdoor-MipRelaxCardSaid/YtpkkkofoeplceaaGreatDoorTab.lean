/- The functions that the self-test reaches. -/
import Derived.Test.YtpkkkofoeplceaaGreatDoorDamA
import Derived.Test.YtpkkkofoeplceaaGreatDoorProg
namespace Go.Dam.Tab
open Go Go.Dam Go.Proofs
set_option maxRecDepth 1000000
def gu:Nat->Bool:=λg=>Nat.beq g 1
def ext(k:Nat):Bool:=Nat.ble 416 k||(Nat.beq k 0||Nat.beq k 1||Nat.beq k 331||Nat.beq k 349||Nat.beq k 350||Nat.beq k 357||Nat.beq k 370)
structure M3 where
 o:Option bg
noncomputable def abJ(f:Nat):M3:=⟨bif ext f then none else(Tryz.prog.funcs.toList[f]?).map (ox Tryz.prog gu)⟩
noncomputable def M4(f:Nat):Option bg:=(abJ f).o
end Go.Dam.Tab
