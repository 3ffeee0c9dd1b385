/- The bodies are the program. -/
import Derived.Test.YtkjakecbclpfpaaGreatDoorCW3A
import Derived.Test.YtkjakecbclpfpaaGreatDoorCKCalls
import Derived.Test.YtkjakecbclpfpaaGreatDoorCLawD
namespace Go.Dam.C
open Go Go.Dam Go.Proofs Go.RowKit Go.Dam.Tab Tryz
set_option maxRecDepth 1000000
def Tq:List (Nat×bg):=[(162,lX),(97,iI),(108,rJ),(110,rL),(52,ki),(107,rH),(109,qb),(86,mQ),(106,qh),(105,qg),(51,qa),(104,oV),(87,qf),(43,qc),(63,rI),(128,oW),(98,rK),(48,p'),(64,qw),(103,pb),(129,qx),(161,rZ),(21,rY),(111,mc),(112,sg),(53,sd),(116,qL),(117,qM),(163,qG),(114,pv),(115,sb),(113,sh),(54,sa),(122,qH),(60,qO),(119,r'),(164,qP),(120,sc),(56,r9),(121,qQ),(57,qN),(59,qI),(55,sf),(58,se),(17,qF),(132,m'),(72,oA),(73,rX),(69,p7),(85,oO),(79,ru),(70,rp),(74,q1),(26,qR),(75,ry),(76,qd),(27,q2),(20,q9),(4,so)]
theorem abF:∀x∈Tq,vA x.1 x.2:=bE func162<|bE func97<|bE func108<|bE func110<|bE func52<|bE func107<|bE func109<|bE func86<|bE func106<|bE func105<|bE func51<|bE func104<|bE func87<|bE func43<|bE func63<|bE func128<|bE func98<|bE func48<|bE func64<|bE func103<|bE func129<|bE func161<|bE func21<|bE func111<|bE func112<|bE func53<|bE func116<|bE func117<|bE func163<|bE func114<|bE func115<|bE func113<|bE func54<|bE func122<|bE func60<|bE func119<|bE func164<|bE func120<|bE func56<|bE func121<|bE func57<|bE func59<|bE func55<|bE func58<|bE func17<|bE func132<|bE func72<|bE func73<|bE func69<|bE func85<|bE func79<|bE func70<|bE func74<|bE func26<|bE func75<|bE func76<|bE func27<|bE func20<|bE func4<|Re
def H0:List (Nat×sF):=[(46,dn z1),(61,dn xr),(90,dn Df),(92,dn Dm),(93,dn Dj),(91,dn Dh),(102,dn Dg),(118,dn Dk),(62,dn Dl),(283,dn Di),(131,dn Dp),(50,dn Dn),(15,y6)]
theorem Z7:∀x∈H0,fq gN Tryz.prog gu x.1 x.2:=hq nK.SK<|hq nK.SH<|hq nK.SD<|hq nK.SM<|hq nK.SI<|hq nK.SF<|hq nK.SE<|hq nK.SJ<|hq nK.SL<|hq nK.SG<|hq nK.SO<|hq nK.SN<|hq abg<|Rw
def pr:aA:=⟨λf=>rn f Tq,λf=>rn f H0⟩
theorem abU:EL pr:=⟨rfl,rfl,rfl,rfl,rfl,rfl,rfl,rfl,rfl,rfl,rfl,rfl⟩
theorem abV:fA pr:=⟨abU,hT,hT,hT,hT,hT,hT,hT,hT,hT,hT,hT,hT,hT,hT,hT,hT,hT,hT,hT,hT,hT,hT⟩
theorem abY:fC pr:=⟨abV,hT,hT,hT,hT,hT,hT,hT,hT,hT,hT,hT,hT,hT,hT,hT,hT,hT,hT,hT,hT,hT,hT,hT⟩
theorem abO:sw pr:=⟨abY,rfl⟩
theorem abP:AY pr:=⟨abO⟩
theorem abQ:EF pr:=⟨abP⟩
theorem abX:nw pr:=⟨abQ⟩
theorem Jc:NE pr:=⟨abX,hT,hT,hT,hT,hT,hT⟩
theorem Jd:x4 pr:=⟨Jc,hT⟩
theorem Jb:Fs pr:=⟨Jd⟩
theorem Je:oy pr:=⟨Jb,hT,hT,hT,hT,hT,hT⟩
theorem I8:sO pr:=⟨Je,hT⟩
theorem acb(m d:Nat):eJ gN Tryz.prog gu (pr.K m d):=xz (yZ Dam.Tab.mixed) (λ_ _ h=>y5 abF h) (λ_ a=>H2 a (gv:=λf=>rn f H0) λ_ _ h=>y5 Z7 h) d
end Go.Dam.C
