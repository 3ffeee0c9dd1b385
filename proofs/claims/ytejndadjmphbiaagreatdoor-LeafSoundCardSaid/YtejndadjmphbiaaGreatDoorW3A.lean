/- Closed facts, by the kernel. -/
import Derived.Test.YtejndadjmphbiaaGreatDoorOvrTwo
namespace Go.Dam.C
open Go Go.Dam Go.Proofs Go.RowKit Go.Dam.Tab Tryz
set_option maxRecDepth 1000000
abbrev vA:=x7 Tryz.prog gu
theorem N'{α:Type}(Q:Nat->α->Prop){k:Nat}{F:α}{l:List (Nat×α)}(h:Q k F)(t:∀x∈l,Q x.1 x.2):∀x∈(k,F)::l,Q x.1 x.2:=λx a=>by
 rcases hH.1 a with rfl | a
 ·exact h
 ·exact t x a
theorem Re:∀x∈([]:List (Nat×bg)),vA x.1 x.2:=λ_ h=>by cases h
theorem Rw{O:cy}:∀x∈([]:List (Nat×sF)),fq O Tryz.prog gu x.1 x.2:=λ_ h=>by cases h
theorem hq{O:cy}{k:Nat}{F:sF}{l:List (Nat×sF)}(h:fq O Tryz.prog gu k F)(t:∀x∈l,fq O Tryz.prog gu x.1 x.2):∀x∈(k,F)::l,fq O Tryz.prog gu x.1 x.2:=N' (fq O Tryz.prog gu) h t
theorem bE{k:Nat}{F:bg}{fn:Func}{l:List (Nat×bg)}(h:Tryz.prog.funcs[k]? = some fn)(t:∀x∈l,vA x.1 x.2)(a:ext k=false:=by rfl)(b:ox Tryz.prog gu fn=F:=by kernel_rfl):∀x∈(k,F)::l,vA x.1 x.2:=N' vA (by rw[<-b];exact q h a) t
theorem hT{X:aA}{f:Nat}{F:bg}(h:Has X f F:=by exact⟨rfl,rfl⟩):Has X f F:=h
def Tp:List (Nat×bg):=[(52,hk),(96,ek),(130,hl),(114,dx),(92,lp),(131,nP),(132,nR),(94,kg),(129,rz),(232,mE),(193,nS),(196,nT),(198,mF),(115,p5),(197,rD),(134,mD),(194,p4),(195,rC),(133,rB),(60,p3),(113,oR),(192,ow),(311,q0),(53,qZ),(90,ly),(59,jE),(95,qj),(18,hF),(91,l2),(23,hW),(58,jc),(93,qk),(48,hV),(83,kU),(50,kV),(51,im),(49,lx),(61,hr),(47,fb),(233,nW),(72,l1),(112,ph),(111,pj),(177,pc),(176,pd),(244,pe),(245,r0),(317,qz)]
theorem abE:∀x∈Tp,vA x.1 x.2:=bE func52<|bE func96<|bE func130<|bE func114<|bE func92<|bE func131<|bE func132<|bE func94<|bE func129<|bE func232<|bE func193<|bE func196<|bE func198<|bE func115<|bE func197<|bE func134<|bE func194<|bE func195<|bE func133<|bE func60<|bE func113<|bE func192<|bE func311<|bE func53<|bE func90<|bE func59<|bE func95<|bE func18<|bE func91<|bE func23<|bE func58<|bE func93<|bE func48<|bE func83<|bE func50<|bE func51<|bE func49<|bE func61<|bE func47<|bE func233<|bE func72<|bE func112<|bE func111<|bE func177<|bE func176<|bE func244<|bE func245<|bE func317<|Re
def HZ:List (Nat×sF):=[(357,C.uw),(116,wi),(117,wj),(178,y8),(179,y7)]
theorem Z6:∀x∈HZ,fq ks Tryz.prog gu x.1 x.2:=hq abi<|hq (abh abB)<|hq abk<|hq abl<|hq abj<|Rw
def Gl:aA:=⟨λf=>rn f Tp,λf=>rn f HZ⟩
theorem abT:dQ Gl:=⟨hT,hT,hT,hT,hT,hT,hT,hT,hT,hT,hT,hT,hT,hT,hT,hT,hT,hT,hT,hT,hT,hT,hT,hT,hT,hT,hT,hT,hT,hT,hT,hT,hT,hT,hT,hT,hT,hT,hT,hT,hT⟩
theorem abS:h5 Gl:=⟨abT,rfl,hT,hT,hT,hT,hT,hT,hT,rfl,rfl,rfl,rfl⟩
theorem V1(m d:Nat):eJ ks Tryz.prog gu (Gl.K m d):=xz (yZ Dam.Tab.mixed) (λ_ _ h=>y5 abE h) (λ_ a=>H2 a (gv:=λf=>rn f HZ) λ_ _ h=>y5 Z6 h) d
theorem nK:ME Tryz.prog gu:=WG rfl Rp V1 abS
end Go.Dam.C
