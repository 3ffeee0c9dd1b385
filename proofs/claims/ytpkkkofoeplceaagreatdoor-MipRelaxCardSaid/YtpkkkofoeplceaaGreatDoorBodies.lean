/- The bodies are the program. -/
import Derived.Test.YtpkkkofoeplceaaGreatDoorW3A
import Derived.Test.YtpkkkofoeplceaaGreatDoorKCalls
import Derived.Test.YtpkkkofoeplceaaGreatDoorLawD
namespace Go.Dam.C
open Go Go.Dam Go.Proofs Go.RowKit Go.Dam.Tab Tryz
set_option maxRecDepth 1000000
def Tq:List (Nat×bg):=[(127,lX),(55,iI),(69,rJ),(71,rL),(24,ki),(68,rH),(70,qb),(38,mQ),(8,qd),(44,qf),(13,qc),(34,qw),(64,pb),(84,qx),(126,rZ),(72,mc),(73,sg),(26,sd),(77,qL),(78,qM),(128,qG),(75,pv),(76,sb),(74,sh),(27,sa),(83,qH),(33,qO),(80,r'),(129,qP),(81,sc),(29,r9),(82,qQ),(30,qN),(32,qI),(28,sf),(31,se),(6,qF),(25,kR),(5,ru),(36,k0),(94,tA),(95,tz),(42,q'),(11,q9),(200,px),(132,sr),(130,pw),(201,sn),(276,qR),(202,sl),(131,so),(85,ss),(37,su),(7,si),(35,sj),(203,pa),(134,l9),(89,ov),(137,rK),(138,oW),(136,nE),(135,rX),(90,oz),(88,nD),(91,sN),(92,rY),(41,sy),(93,sM),(87,qg),(40,qa),(9,sO),(3,uN)]
theorem abF:∀x∈Tq,vA x.1 x.2:=bE func127<|bE func55<|bE func69<|bE func71<|bE func24<|bE func68<|bE func70<|bE func38<|bE func8<|bE func44<|bE func13<|bE func34<|bE func64<|bE func84<|bE func126<|bE func72<|bE func73<|bE func26<|bE func77<|bE func78<|bE func128<|bE func75<|bE func76<|bE func74<|bE func27<|bE func83<|bE func33<|bE func80<|bE func129<|bE func81<|bE func29<|bE func82<|bE func30<|bE func32<|bE func28<|bE func31<|bE func6<|bE func25<|bE func5<|bE func36<|bE func94<|bE func95<|bE func42<|bE func11<|bE func200<|bE func132<|bE func130<|bE func201<|bE func276<|bE func202<|bE func131<|bE func85<|bE func37<|bE func7<|bE func35<|bE func203<|bE func134<|bE func89<|bE func137<|bE func138<|bE func136<|bE func135<|bE func90<|bE func88<|bE func91<|bE func92<|bE func41<|bE func93<|bE func87<|bE func40<|bE func9<|bE func3<|Re
def H0:List (Nat×sF):=[(16,dn z1),(58,dn xr),(48,dn Df),(50,dn Dm),(51,dn Dj),(49,dn Dh),(63,dn Dg),(79,dn Dk),(47,dn Dl),(245,dn Di),(39,dn Dp),(22,dn Dn),(4,y6)]
theorem Z7:∀x∈H0,fq gN Tryz.prog gu x.1 x.2:=hq nK.SK<|hq nK.SH<|hq nK.SD<|hq nK.SM<|hq nK.SI<|hq nK.SF<|hq nK.SE<|hq nK.SJ<|hq nK.SL<|hq nK.SG<|hq nK.SO<|hq nK.SN<|hq abg<|Rw
def pr:aA:=⟨λf=>rn f Tq,λf=>rn f H0⟩
theorem abU:EL pr:=⟨rfl,rfl,rfl,rfl,rfl,rfl,rfl,rfl,rfl,rfl,rfl,rfl⟩
theorem abV:fA pr:=⟨abU,hT,hT,hT,hT,hT,hT,hT,hT,hT,hT,hT,hT,hT,hT,hT⟩
theorem abY:fC pr:=⟨abV,hT,hT,hT,hT,hT,hT,hT,hT,hT,hT,hT,hT,hT,hT,hT,hT,hT,hT,hT,hT,hT,hT⟩
theorem abO:sw pr:=⟨abY,rfl,hT,hT⟩
theorem abP:AY pr:=⟨abO,hT,hT,hT,hT⟩
theorem abQ:EF pr:=⟨abP,hT⟩
theorem abX:nw pr:=⟨abQ,hT,hT,hT,hT,hT,hT,hT,hT,hT,hT,hT,hT⟩
theorem Im:NE pr:=⟨abX,hT,hT,hT,hT,hT,hT,hT⟩
theorem Io:oy pr:=⟨Im,hT,hT,hT,hT,hT,hT,hT⟩
theorem Il:yV pr:=⟨Io,hT⟩
theorem Ip:FD pr:=⟨Il,hT⟩
theorem acb(m d:Nat):eJ gN Tryz.prog gu (pr.K m d):=xz (yZ Dam.Tab.mixed) (λ_ _ h=>y5 abF h) (λ_ a=>H2 a (gv:=λf=>rn f H0) λ_ _ h=>y5 Z7 h) d
end Go.Dam.C
