/- The evaluator over the table. -/
import Derived.Test.YtejndadjmphbiaaGreatDoorTab
import Derived.Test.YtejndadjmphbiaaGreatDoorOvr
import Derived.Test.YtejndadjmphbiaaGreatDoorLawB
import Derived.Test.YtejndadjmphbiaaGreatDoorDamB
namespace Go.Dam.Tab
open Go Go.Dam Go.Dam.C Go.Proofs.YtejndadjmphbiaaGreatDoor
set_option maxRecDepth 1000000
def ln:List (Nat×sF):=[(357,C.uw),(116,wi),(117,wj),(178,y8),(179,y7),(261,GX),(219,GY),(186,GZ)]
def lits:List (List UInt8×Rat):=[([48,46,53],1/2),([45,49,46,50,53,101,49],-25/2)]
def gi:List (Nat×sF):=(228,gr lits)::(18,dn z1)::(58,dn xr)::(48,dn Df)::(50,dn Dm)::(51,dn Dj)::(49,dn Dh)::(61,dn Dg)::(83,dn Dk)::(47,dn Dl)::(233,dn Di)::(72,dn Dp)::(23,dn Dn)::ln
structure UF where
 o:Option sF
noncomputable def e2K(l:List (Nat×sF)):cv:=Af M4 (nu λf=>(UF.mk (rn f l)).o) 100000 60
def Bb:List (Nat×sF):=(106,y6)::gi
def Bp:List (Nat×sF):=(21,y6)::gi
def okB(r:Option (Value×ae)):Bool:=match r with
 | some (.bool true,_)=>true
 | _=>false
end Go.Dam.Tab
