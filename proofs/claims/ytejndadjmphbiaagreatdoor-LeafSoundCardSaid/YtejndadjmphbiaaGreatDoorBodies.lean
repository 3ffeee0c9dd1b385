/- The bodies are the program. -/
import Derived.Test.YtejndadjmphbiaaGreatDoorW3A
import Derived.Test.YtejndadjmphbiaaGreatDoorKCalls
import Derived.Test.YtejndadjmphbiaaGreatDoorLawD
namespace Go.Dam.C
open Go Go.Dam Go.Proofs Go.RowKit Go.Dam.Tab Tryz
set_option maxRecDepth 1000000
def Tq:List (Nat×bg):=[(119,lX),(55,iI),(67,rJ),(69,rL),(25,ki),(66,rH),(68,qb),(43,mQ),(65,qh),(64,qg),(24,qa),(63,oV),(30,qd),(44,qf),(15,qc),(32,rI),(75,oW),(56,rK),(20,p'),(26,qw),(62,pb),(70,qx),(118,rZ),(76,mc),(77,sg),(33,sd),(81,qL),(82,qM),(127,qG),(79,pv),(80,sb),(78,sh),(34,sa),(87,qH),(40,qO),(84,r'),(128,qP),(85,sc),(36,r9),(86,qQ),(37,qN),(39,qI),(35,sf),(38,se),(12,qF),(7,kR),(5,ru),(28,k0),(88,tA),(89,tz),(41,q'),(13,q9),(187,px),(122,sr),(120,pw),(188,sn),(263,qR),(189,sl),(121,so),(71,ss),(29,su),(9,si),(27,sj),(190,pa),(191,lR),(123,q4),(124,q3),(125,q2),(73,oA),(31,oz),(10,oy),(74,rX),(126,rY),(8,kf),(6,lW),(3,s4)]
theorem abF:∀x∈Tq,vA x.1 x.2:=bE func119<|bE func55<|bE func67<|bE func69<|bE func25<|bE func66<|bE func68<|bE func43<|bE func65<|bE func64<|bE func24<|bE func63<|bE func30<|bE func44<|bE func15<|bE func32<|bE func75<|bE func56<|bE func20<|bE func26<|bE func62<|bE func70<|bE func118<|bE func76<|bE func77<|bE func33<|bE func81<|bE func82<|bE func127<|bE func79<|bE func80<|bE func78<|bE func34<|bE func87<|bE func40<|bE func84<|bE func128<|bE func85<|bE func36<|bE func86<|bE func37<|bE func39<|bE func35<|bE func38<|bE func12<|bE func7<|bE func5<|bE func28<|bE func88<|bE func89<|bE func41<|bE func13<|bE func187<|bE func122<|bE func120<|bE func188<|bE func263<|bE func189<|bE func121<|bE func71<|bE func29<|bE func9<|bE func27<|bE func190<|bE func191<|bE func123<|bE func124<|bE func125<|bE func73<|bE func31<|bE func10<|bE func74<|bE func126<|bE func8<|bE func6<|bE func3<|Re
def H0:List (Nat×sF):=[(18,dn z1),(58,dn xr),(48,dn Df),(50,dn Dm),(51,dn Dj),(49,dn Dh),(61,dn Dg),(83,dn Dk),(47,dn Dl),(233,dn Di),(72,dn Dp),(23,dn Dn),(4,y6)]
theorem Z7:∀x∈H0,fq gN Tryz.prog gu x.1 x.2:=hq nK.SK<|hq nK.SH<|hq nK.SD<|hq nK.SM<|hq nK.SI<|hq nK.SF<|hq nK.SE<|hq nK.SJ<|hq nK.SL<|hq nK.SG<|hq nK.SO<|hq nK.SN<|hq abg<|Rw
def pr:aA:=⟨λf=>rn f Tq,λf=>rn f H0⟩
theorem abU:EL pr:=⟨rfl,rfl,rfl,rfl,rfl,rfl,rfl,rfl,rfl,rfl,rfl,rfl⟩
theorem abV:fA pr:=⟨abU,hT,hT,hT,hT,hT,hT,hT,hT,hT,hT,hT,hT,hT,hT,hT,hT,hT,hT,hT,hT,hT,hT,hT⟩
theorem abY:fC pr:=⟨abV,hT,hT,hT,hT,hT,hT,hT,hT,hT,hT,hT,hT,hT,hT,hT,hT,hT,hT,hT,hT,hT,hT⟩
theorem abO:sw pr:=⟨abY,rfl,hT,hT⟩
theorem abP:AY pr:=⟨abO,hT,hT,hT,hT⟩
theorem abQ:EF pr:=⟨abP,hT⟩
theorem abX:nw pr:=⟨abQ,hT,hT,hT,hT,hT,hT,hT,hT,hT,hT,hT,hT⟩
theorem abW:ov pr:=⟨abX,hT,hT,hT,hT,hT,hT,hT,hT,hT⟩
theorem abR:x4 pr:=⟨abW,hT,hT,hT⟩
theorem acb(m d:Nat):eJ gN Tryz.prog gu (pr.K m d):=xz (yZ Dam.Tab.mixed) (λ_ _ h=>y5 abF h) (λ_ a=>H2 a (gv:=λf=>rn f H0) λ_ _ h=>y5 Z7 h) d
end Go.Dam.C
