/- Closed facts, by the kernel. -/
import Derived.Test.YtkjakecbclpfpaaGreatDoorCOvrTwo
namespace Go.Dam.C
open Go Go.Dam Go.Proofs Go.RowKit Go.Dam.Tab Tryz
set_option maxRecDepth 1000000
abbrev vA:=x7 Tryz.prog gu
theorem N'{α:Type}(Q:Nat->α->Prop){k:Nat}{F:α}{l:List (Nat×α)}(h:Q k F)(t:∀x∈l,Q x.1 x.2):∀x∈(k,F)::l,Q x.1 x.2:=λx a=>by
 rcases hH.1 a with rfl | a
 ·exact h
 ·exact t x a
theorem Re:∀x∈([]:List (Nat×bg)),vA x.1 x.2:=λ_ h=>by cases h
theorem Rw{O:cy}:∀x∈([]:List (Nat×sF)),fq O Tryz.prog gu x.1 x.2:=λ_ h=>by cases h
theorem hq{O:cy}{k:Nat}{F:sF}{l:List (Nat×sF)}(h:fq O Tryz.prog gu k F)(t:∀x∈l,fq O Tryz.prog gu x.1 x.2):∀x∈(k,F)::l,fq O Tryz.prog gu x.1 x.2:=N' (fq O Tryz.prog gu) h t
theorem bE{k:Nat}{F:bg}{fn:Func}{l:List (Nat×bg)}(h:Tryz.prog.funcs[k]? = some fn)(t:∀x∈l,vA x.1 x.2)(a:ext k=false:=by rfl)(b:ox Tryz.prog gu fn=F:=by kernel_rfl):∀x∈(k,F)::l,vA x.1 x.2:=N' vA (by rw[<-b];exact q h a) t
theorem hT{X:aA}{f:Nat}{F:bg}(h:Has X f F:=by exact⟨rfl,rfl⟩):Has X f F:=h
def Tp:List (Nat×bg):=[(94,hk),(142,ek),(175,hl),(157,dx),(138,lp),(169,nP),(176,nR),(140,kg),(170,rz),(282,mE),(243,nS),(246,nT),(248,mF),(158,p5),(247,rD),(178,mD),(244,p4),(245,rC),(177,rB),(101,p3),(125,oR),(238,ow),(364,q0),(95,qZ),(126,ly),(100,jE),(141,qj),(46,hF),(127,l2),(50,hW),(61,jc),(139,qk),(90,hV),(118,kU),(92,kV),(93,im),(91,lx),(102,hr),(62,fb),(283,nW),(131,l1),(124,ph),(123,pj),(166,pc),(165,pd),(227,pe),(228,r0),(302,qz)]
theorem abE:∀x∈Tp,vA x.1 x.2:=bE func94<|bE func142<|bE func175<|bE func157<|bE func138<|bE func169<|bE func176<|bE func140<|bE func170<|bE func282<|bE func243<|bE func246<|bE func248<|bE func158<|bE func247<|bE func178<|bE func244<|bE func245<|bE func177<|bE func101<|bE func125<|bE func238<|bE func364<|bE func95<|bE func126<|bE func100<|bE func141<|bE func46<|bE func127<|bE func50<|bE func61<|bE func139<|bE func90<|bE func118<|bE func92<|bE func93<|bE func91<|bE func102<|bE func62<|bE func283<|bE func131<|bE func124<|bE func123<|bE func166<|bE func165<|bE func227<|bE func228<|bE func302<|Re
def HZ:List (Nat×sF):=[(377,C.uw),(159,wi),(160,wj),(167,y8),(168,y7)]
theorem Z6:∀x∈HZ,fq ks Tryz.prog gu x.1 x.2:=hq abi<|hq (abh abB)<|hq abk<|hq abl<|hq abj<|Rw
def Gl:aA:=⟨λf=>rn f Tp,λf=>rn f HZ⟩
theorem abT:dQ Gl:=⟨hT,hT,hT,hT,hT,hT,hT,hT,hT,hT,hT,hT,hT,hT,hT,hT,hT,hT,hT,hT,hT,hT,hT,hT,hT,hT,hT,hT,hT,hT,hT,hT,hT,hT,hT,hT,hT,hT,hT,hT,hT⟩
theorem abS:h5 Gl:=⟨abT,rfl,hT,hT,hT,hT,hT,hT,hT,rfl,rfl,rfl,rfl⟩
theorem V1(m d:Nat):eJ ks Tryz.prog gu (Gl.K m d):=xz (yZ Dam.Tab.mixed) (λ_ _ h=>y5 abE h) (λ_ a=>H2 a (gv:=λf=>rn f HZ) λ_ _ h=>y5 Z6 h) d
theorem nK:ME Tryz.prog gu:=WG rfl Rp V1 abS
end Go.Dam.C
