/- The evaluator over the table. -/
import Derived.Test.YtkjakecbclpfpaaGreatDoorCTab
import Derived.Test.YtkjakecbclpfpaaGreatDoorCOvr
import Derived.Test.YtkjakecbclpfpaaGreatDoorCLawB
import Derived.Test.YtkjakecbclpfpaaGreatDoorCDamB
namespace Go.Dam.Tab
open Go Go.Dam Go.Dam.C Go.Proofs.YtkjakecbclpfpaaGreatDoor
set_option maxRecDepth 1000000
def ln:List (Nat×sF):=[(377,C.uw),(159,wi),(160,wj),(167,y8),(168,y7),(300,GX),(269,GY),(226,GZ)]
def lits:List (List UInt8×Rat):=[([48,46,53],1/2),([45,49,46,50,53,101,49],-25/2)]
def gi:List (Nat×sF):=(278,gr lits)::(46,dn z1)::(61,dn xr)::(90,dn Df)::(92,dn Dm)::(93,dn Dj)::(91,dn Dh)::(102,dn Dg)::(118,dn Dk)::(62,dn Dl)::(283,dn Di)::(131,dn Dp)::(50,dn Dn)::ln
structure UF where
 o:Option sF
noncomputable def e2(l:List (Nat×sF)):cv:=Af M4 (nu λf=>(UF.mk (rn f l)).o) 100000 60
def Bb:List (Nat×sF):=(152,y6)::gi
def Bp:List (Nat×sF):=(49,y6)::gi
def okB(r:Option (Value×ae)):Bool:=match r with
 | some (.bool true,_)=>true
 | _=>false
end Go.Dam.Tab
