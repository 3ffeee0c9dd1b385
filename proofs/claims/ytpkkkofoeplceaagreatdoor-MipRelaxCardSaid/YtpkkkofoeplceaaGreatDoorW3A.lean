/- Closed facts, by the kernel. -/
import Derived.Test.YtpkkkofoeplceaaGreatDoorOvrTwo
namespace Go.Dam.C
open Go Go.Dam Go.Proofs Go.RowKit Go.Dam.Tab Tryz
set_option maxRecDepth 1000000
abbrev vA:=x7 Tryz.prog gu
theorem N'{α:Type}(Q:Nat->α->Prop){k:Nat}{F:α}{l:List (Nat×α)}(h:Q k F)(t:∀x∈l,Q x.1 x.2):∀x∈(k,F)::l,Q x.1 x.2:=λx a=>by
 rcases hH.1 a with rfl | a
 ·exact h
 ·exact t x a
theorem Re:∀x∈([]:List (Nat×bg)),vA x.1 x.2:=λ_ h=>by cases h
theorem Rw{O:cy}:∀x∈([]:List (Nat×sF)),fq O Tryz.prog gu x.1 x.2:=λ_ h=>by cases h
theorem hq{O:cy}{k:Nat}{F:sF}{l:List (Nat×sF)}(h:fq O Tryz.prog gu k F)(t:∀x∈l,fq O Tryz.prog gu x.1 x.2):∀x∈(k,F)::l,fq O Tryz.prog gu x.1 x.2:=N' (fq O Tryz.prog gu) h t
theorem bE{k:Nat}{F:bg}{fn:Func}{l:List (Nat×bg)}(h:Tryz.prog.funcs[k]? = some fn)(t:∀x∈l,vA x.1 x.2)(a:ext k=false:=by rfl)(b:ox Tryz.prog gu fn=F:=by kernel_rfl):∀x∈(k,F)::l,vA x.1 x.2:=N' vA (by rw[<-b];exact q h a) t
theorem hT{X:aA}{f:Nat}{F:bg}(h:Has X f F:=by exact⟨rfl,rfl⟩):Has X f F:=h
def Tp:List (Nat×bg):=[(52,hk),(101,ek),(133,hl),(122,dx),(86,lp),(140,nP),(141,nR),(99,kg),(139,rz),(244,mE),(205,nS),(208,nT),(210,mF),(123,p5),(209,rD),(143,mD),(206,p4),(207,rC),(142,rB),(62,p3),(118,oR),(204,ow),(324,q0),(53,qZ),(96,ly),(61,jE),(100,qj),(16,hF),(97,l2),(22,hW),(58,jc),(98,qk),(48,hV),(79,kU),(50,kV),(51,im),(49,lx),(63,hr),(47,fb),(245,nW),(39,l1),(117,ph),(116,pj),(186,pc),(185,pd),(256,pe),(257,r0),(330,qz)]
theorem abE:∀x∈Tp,vA x.1 x.2:=bE func52<|bE func101<|bE func133<|bE func122<|bE func86<|bE func140<|bE func141<|bE func99<|bE func139<|bE func244<|bE func205<|bE func208<|bE func210<|bE func123<|bE func209<|bE func143<|bE func206<|bE func207<|bE func142<|bE func62<|bE func118<|bE func204<|bE func324<|bE func53<|bE func96<|bE func61<|bE func100<|bE func16<|bE func97<|bE func22<|bE func58<|bE func98<|bE func48<|bE func79<|bE func50<|bE func51<|bE func49<|bE func63<|bE func47<|bE func245<|bE func39<|bE func117<|bE func116<|bE func186<|bE func185<|bE func256<|bE func257<|bE func330<|Re
def HZ:List (Nat×sF):=[(370,C.uw),(124,wi),(125,wj),(187,y8),(188,y7)]
theorem Z6:∀x∈HZ,fq ks Tryz.prog gu x.1 x.2:=hq abi<|hq (abh abB)<|hq abk<|hq abl<|hq abj<|Rw
def Gl:aA:=⟨λf=>rn f Tp,λf=>rn f HZ⟩
theorem abT:dQ Gl:=⟨hT,hT,hT,hT,hT,hT,hT,hT,hT,hT,hT,hT,hT,hT,hT,hT,hT,hT,hT,hT,hT,hT,hT,hT,hT,hT,hT,hT,hT,hT,hT,hT,hT,hT,hT,hT,hT,hT,hT,hT,hT⟩
theorem abS:h5 Gl:=⟨abT,rfl,hT,hT,hT,hT,hT,hT,hT,rfl,rfl,rfl,rfl⟩
theorem V1(m d:Nat):eJ ks Tryz.prog gu (Gl.K m d):=xz (yZ Dam.Tab.mixed) (λ_ _ h=>y5 abE h) (λ_ a=>H2 a (gv:=λf=>rn f HZ) λ_ _ h=>y5 Z6 h) d
theorem nK:ME Tryz.prog gu:=WG rfl Rp V1 abS
end Go.Dam.C
