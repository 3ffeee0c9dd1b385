/- The evaluator over the table. -/
import Derived.Test.YtpkkkofoeplceaaGreatDoorTab
import Derived.Test.YtpkkkofoeplceaaGreatDoorOvr
import Derived.Test.YtpkkkofoeplceaaGreatDoorLawB
import Derived.Test.YtpkkkofoeplceaaGreatDoorDamB
namespace Go.Dam.Tab
open Go Go.Dam Go.Dam.C Go.Proofs.YtpkkkofoeplceaaGreatDoor
set_option maxRecDepth 1000000
def ln:List (Nat×sF):=[(370,C.uw),(124,wi),(125,wj),(187,y8),(188,y7),(274,GX),(231,GY),(199,GZ)]
def lits:List (List UInt8×Rat):=[([48,46,53],1/2),([45,49,46,50,53,101,49],-25/2)]
def gi:List (Nat×sF):=(240,gr lits)::(16,dn z1)::(58,dn xr)::(48,dn Df)::(50,dn Dm)::(51,dn Dj)::(49,dn Dh)::(63,dn Dg)::(79,dn Dk)::(47,dn Dl)::(245,dn Di)::(39,dn Dp)::(22,dn Dn)::ln
structure UF where
 o:Option sF
noncomputable def e2K(l:List (Nat×sF)):cv:=Af M4 (nu λf=>(UF.mk (rn f l)).o) 100000 60
def Bb:List (Nat×sF):=(111,y6)::gi
def Bp:List (Nat×sF):=(19,y6)::gi
def okB(r:Option (Value×ae)):Bool:=match r with
 | some (.bool true,_)=>true
 | _=>false
end Go.Dam.Tab
