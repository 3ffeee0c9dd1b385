/- The bodies are the program. -/
import Derived.Test.YtgklfcpppenojaaGreatDoorLawD
import Derived.Test.YtgklfcpppenojaaGreatDoorOvrTwo
import Derived.Test.YtgklfcpppenojaaGreatDoorTabOk
namespace Go.Dam.C
open Go Go.Dam Go.Proofs Go.RowKit Go.Dam.Tab
set_option maxRecDepth 1000000
abbrev DX:=Fc Tryz.prog h2
def xk{α:Type}(f:Nat):List (Nat×α)->Option α
 | []=>none
 | x::l=>bif Nat.beq f x.1 then some x.2 else xk f l
theorem Hq{α:Type}{Q:Nat->α->Prop}{f:Nat}{F:α}:∀{l:List (Nat×α)},(∀x∈l,Q x.1 x.2)->xk f l=some F->Q f F
 | [],_,h=>by cases h
 | x::l,bU,h=>by
   rw[xk,ed]at h;by_cases bc:f=x.1
   ·subst bc;simp only[decide_true,cond_true,a6]at h;exact h▸bU x (List.mem_cons_self)
   ·simp only[bc,decide_false,cond_false]at h;exact Hq (λy bu=>bU y (List.mem_cons_of_mem _ bu)) h
theorem asY{α:Type}(Q:Nat->α->Prop){k:Nat}{F:α}{l:List (Nat×α)}(h:Q k F)(t:∀x∈l,Q x.1 x.2):∀x∈(k,F)::l,Q x.1 x.2:=λx az=>by
 rcases lD.1 az with rfl | az
 ·exact h
 ·exact t x az
theorem asZ:∀x∈([]:List (Nat×b2)),DX x.1 x.2:=λ_ h=>by cases h
theorem as0{O:da}:∀x∈([]:List (Nat×yE)),gY O Tryz.prog h2 x.1 x.2:=λ_ h=>by cases h
theorem jc{O:da}{k:Nat}{F:yE}{l:List (Nat×yE)}(h:gY O Tryz.prog h2 k F)(t:∀x∈l,gY O Tryz.prog h2 x.1 x.2):∀x∈(k,F)::l,gY O Tryz.prog h2 x.1 x.2:=asY (gY O Tryz.prog h2) h t
theorem cC{k:Nat}{F:b2}{fn:Func}{l:List (Nat×b2)}(h:Tryz.prog.funcs[k]? = some fn)(he:ext k=false)(ei:sh Tryz.prog h2 fn=F)(t:∀x∈l,DX x.1 x.2):∀x∈(k,F)::l,DX x.1 x.2:=asY DX (by rw[<-ei];exact q h he) t
def as1:List (Nat×b2):=[(54,ja),(99,fB),(134,jm),(117,eK),(95,oD),(129,rn),(135,rp),(97,na),(130,wE),(245,qR),(206,rU),(209,rV),(211,qS),(118,uK),(210,wF),(137,qm),(207,uL),(208,wG),(136,wH),(63,uM),(88,sY),(201,sZ),(328,wI),(55,wJ),(89,oE),(62,lW),(98,tQ),(18,kp),(90,pr),(23,mI),(38,nx),(96,tR),(50,kG),(80,nV),(52,nW),(53,ke),(51,oG),(64,k7),(39,gE),(246,tS),(114,su),(87,tg),(86,th),(126,tj),(125,ti),(190,tk),(191,xj),(266,vl)]
theorem aFF:∀x∈as1,DX x.1 x.2:=cC Tryz.func54 rfl (by kernel_rfl)<|cC Tryz.func99 rfl (by kernel_rfl)<|cC Tryz.func134 rfl (by kernel_rfl)<|cC Tryz.func117 rfl (by kernel_rfl)<|cC Tryz.func95 rfl (by kernel_rfl)<|cC Tryz.func129 rfl (by kernel_rfl)<|cC Tryz.func135 rfl (by kernel_rfl)<|cC Tryz.func97 rfl (by kernel_rfl)<|cC Tryz.func130 rfl (by kernel_rfl)<|cC Tryz.func245 rfl (by kernel_rfl)<|cC Tryz.func206 rfl (by kernel_rfl)<|cC Tryz.func209 rfl (by kernel_rfl)<|cC Tryz.func211 rfl (by kernel_rfl)<|cC Tryz.func118 rfl (by kernel_rfl)<|cC Tryz.func210 rfl (by kernel_rfl)<|cC Tryz.func137 rfl (by kernel_rfl)<|cC Tryz.func207 rfl (by kernel_rfl)<|cC Tryz.func208 rfl (by kernel_rfl)<|cC Tryz.func136 rfl (by kernel_rfl)<|cC Tryz.func63 rfl (by kernel_rfl)<|cC Tryz.func88 rfl (by kernel_rfl)<|cC Tryz.func201 rfl (by kernel_rfl)<|cC Tryz.func328 rfl (by kernel_rfl)<|cC Tryz.func55 rfl (by kernel_rfl)<|cC Tryz.func89 rfl (by kernel_rfl)<|cC Tryz.func62 rfl (by kernel_rfl)<|cC Tryz.func98 rfl (by kernel_rfl)<|cC Tryz.func18 rfl (by kernel_rfl)<|cC Tryz.func90 rfl (by kernel_rfl)<|cC Tryz.func23 rfl (by kernel_rfl)<|cC Tryz.func38 rfl (by kernel_rfl)<|cC Tryz.func96 rfl (by kernel_rfl)<|cC Tryz.func50 rfl (by kernel_rfl)<|cC Tryz.func80 rfl (by kernel_rfl)<|cC Tryz.func52 rfl (by kernel_rfl)<|cC Tryz.func53 rfl (by kernel_rfl)<|cC Tryz.func51 rfl (by kernel_rfl)<|cC Tryz.func64 rfl (by kernel_rfl)<|cC Tryz.func39 rfl (by kernel_rfl)<|cC Tryz.func246 rfl (by kernel_rfl)<|cC Tryz.func114 rfl (by kernel_rfl)<|cC Tryz.func87 rfl (by kernel_rfl)<|cC Tryz.func86 rfl (by kernel_rfl)<|cC Tryz.func126 rfl (by kernel_rfl)<|cC Tryz.func125 rfl (by kernel_rfl)<|cC Tryz.func190 rfl (by kernel_rfl)<|cC Tryz.func191 rfl (by kernel_rfl)<|cC Tryz.func266 rfl (by kernel_rfl)<|asZ
def UI:List (Nat×yE):=[(341,C.zu),(119,DV),(120,DW),(127,Hm),(128,Hn)]
theorem aFG:∀x∈UI,gY nz Tryz.prog h2 x.1 x.2:=jc aFy<|jc aFA<|jc aFB<|jc aFC<|jc aFE<|as0
def UJ:aY:=⟨λf=>xk f as1,λf=>xk f UI⟩
theorem aFH:fa UJ where
 ja:=⟨rfl,rfl⟩
 fB:=⟨rfl,rfl⟩
 jm:=⟨rfl,rfl⟩
 eK:=⟨rfl,rfl⟩
 oD:=⟨rfl,rfl⟩
 rn:=⟨rfl,rfl⟩
 rp:=⟨rfl,rfl⟩
 na:=⟨rfl,rfl⟩
 wE:=⟨rfl,rfl⟩
 qR:=⟨rfl,rfl⟩
 rU:=⟨rfl,rfl⟩
 rV:=⟨rfl,rfl⟩
 qS:=⟨rfl,rfl⟩
 uK:=⟨rfl,rfl⟩
 wF:=⟨rfl,rfl⟩
 qm:=⟨rfl,rfl⟩
 uL:=⟨rfl,rfl⟩
 wG:=⟨rfl,rfl⟩
 wH:=⟨rfl,rfl⟩
 uM:=⟨rfl,rfl⟩
 sY:=⟨rfl,rfl⟩
 sZ:=⟨rfl,rfl⟩
 wI:=⟨rfl,rfl⟩
 wJ:=⟨rfl,rfl⟩
 oE:=⟨rfl,rfl⟩
 lW:=⟨rfl,rfl⟩
 tQ:=⟨rfl,rfl⟩
 kp:=⟨rfl,rfl⟩
 pr:=⟨rfl,rfl⟩
 mI:=⟨rfl,rfl⟩
 nx:=⟨rfl,rfl⟩
 tR:=⟨rfl,rfl⟩
 kG:=⟨rfl,rfl⟩
 nV:=⟨rfl,rfl⟩
 nW:=⟨rfl,rfl⟩
 ke:=⟨rfl,rfl⟩
 oG:=⟨rfl,rfl⟩
 k7:=⟨rfl,rfl⟩
 gE:=⟨rfl,rfl⟩
 tS:=⟨rfl,rfl⟩
 su:=⟨rfl,rfl⟩
theorem aFI:kr UJ where
 tofa:=aFH
 idx:=rfl
 tg:=⟨rfl,rfl⟩
 th:=⟨rfl,rfl⟩
 tj:=⟨rfl,rfl⟩
 ti:=⟨rfl,rfl⟩
 tk:=⟨rfl,rfl⟩
 xj:=⟨rfl,rfl⟩
 vl:=⟨rfl,rfl⟩
 fmt:=rfl
 rep:=rfl
 trim:=rfl
 parse:=rfl
theorem aFJ(m d:Nat):fT nz Tryz.prog h2 (UJ.K m d):=BZ (Em Dam.Tab.mixed) (λ_ _ h=>Hq aFF h) (λ_ db=>N7 db (ov:=λf=>xk f UI) λ_ _ h=>Hq aFG h) d
theorem as2(g:Nat)(h:h2 g=true):g=1:=by
 simp only[h2,ed,eh]at h;exact h
theorem r7:abt Tryz.prog h2:=aB9 rfl as2 aFJ aFI
def as3:List (Nat×b2):=[(122,pt),(57,kJ),(70,vR),(72,vS),(25,pv),(69,vT),(71,tW),(46,qt),(68,tX),(67,tY),(24,tZ),(66,sw),(47,t'),(15,ua),(40,vU),(91,sx),(58,vV),(20,ub),(42,vW),(65,sy),(93,uc),(121,vX),(9,s7),(73,pK),(74,wV),(27,wW),(78,uY),(79,uZ),(123,u1),(76,s8),(77,wX),(75,wY),(28,wZ),(84,u2),(34,u3),(81,w1),(124,u4),(82,w2),(30,w3),(83,u5),(31,u6),(33,u7),(29,w4),(32,w5),(6,w6),(26,ll),(5,wk),(44,bYP),(85,bYQ),(36,bYs),(35,bYg),(7,bYG),(37,bYH),(92,bYy),(41,bYz),(10,bYA),(11,bYB),(8,bYD),(3,bYO)]
theorem aFK:∀x∈as3,DX x.1 x.2:=cC Tryz.func122 rfl (by kernel_rfl)<|cC Tryz.func57 rfl (by kernel_rfl)<|cC Tryz.func70 rfl (by kernel_rfl)<|cC Tryz.func72 rfl (by kernel_rfl)<|cC Tryz.func25 rfl (by kernel_rfl)<|cC Tryz.func69 rfl (by kernel_rfl)<|cC Tryz.func71 rfl (by kernel_rfl)<|cC Tryz.func46 rfl (by kernel_rfl)<|cC Tryz.func68 rfl (by kernel_rfl)<|cC Tryz.func67 rfl (by kernel_rfl)<|cC Tryz.func24 rfl (by kernel_rfl)<|cC Tryz.func66 rfl (by kernel_rfl)<|cC Tryz.func47 rfl (by kernel_rfl)<|cC Tryz.func15 rfl (by kernel_rfl)<|cC Tryz.func40 rfl (by kernel_rfl)<|cC Tryz.func91 rfl (by kernel_rfl)<|cC Tryz.func58 rfl (by kernel_rfl)<|cC Tryz.func20 rfl (by kernel_rfl)<|cC Tryz.func42 rfl (by kernel_rfl)<|cC Tryz.func65 rfl (by kernel_rfl)<|cC Tryz.func93 rfl (by kernel_rfl)<|cC Tryz.func121 rfl (by kernel_rfl)<|cC Tryz.func9 rfl (by kernel_rfl)<|cC Tryz.func73 rfl (by kernel_rfl)<|cC Tryz.func74 rfl (by kernel_rfl)<|cC Tryz.func27 rfl (by kernel_rfl)<|cC Tryz.func78 rfl (by kernel_rfl)<|cC Tryz.func79 rfl (by kernel_rfl)<|cC Tryz.func123 rfl (by kernel_rfl)<|cC Tryz.func76 rfl (by kernel_rfl)<|cC Tryz.func77 rfl (by kernel_rfl)<|cC Tryz.func75 rfl (by kernel_rfl)<|cC Tryz.func28 rfl (by kernel_rfl)<|cC Tryz.func84 rfl (by kernel_rfl)<|cC Tryz.func34 rfl (by kernel_rfl)<|cC Tryz.func81 rfl (by kernel_rfl)<|cC Tryz.func124 rfl (by kernel_rfl)<|cC Tryz.func82 rfl (by kernel_rfl)<|cC Tryz.func30 rfl (by kernel_rfl)<|cC Tryz.func83 rfl (by kernel_rfl)<|cC Tryz.func31 rfl (by kernel_rfl)<|cC Tryz.func33 rfl (by kernel_rfl)<|cC Tryz.func29 rfl (by kernel_rfl)<|cC Tryz.func32 rfl (by kernel_rfl)<|cC Tryz.func6 rfl (by kernel_rfl)<|cC Tryz.func26 rfl (by kernel_rfl)<|cC Tryz.func5 rfl (by kernel_rfl)<|cC Tryz.func44 rfl (by kernel_rfl)<|cC Tryz.func85 rfl (by kernel_rfl)<|cC Tryz.func36 rfl (by kernel_rfl)<|cC Tryz.func35 rfl (by kernel_rfl)<|cC Tryz.func7 rfl (by kernel_rfl)<|cC Tryz.func37 rfl (by kernel_rfl)<|cC Tryz.func92 rfl (by kernel_rfl)<|cC Tryz.func41 rfl (by kernel_rfl)<|cC Tryz.func10 rfl (by kernel_rfl)<|cC Tryz.func11 rfl (by kernel_rfl)<|cC Tryz.func8 rfl (by kernel_rfl)<|cC Tryz.func3 rfl (by kernel_rfl)<|asZ
def UK:List (Nat×yE):=[(18,eM Gx),(38,eM Dp),(50,eM KZ),(52,eM K0),(53,eM K1),(51,eM K2),(64,eM K3),(80,eM K4),(39,eM K5),(246,eM RT),(114,eM RU),(23,eM K6),(4,Fu)]
theorem aFL:∀x∈UK,gY iG Tryz.prog h2 x.1 x.2:=jc r7.abu<|jc r7.abv<|jc r7.abw<|jc r7.abx<|jc r7.aby<|jc r7.abz<|jc r7.abA<|jc r7.abB<|jc r7.abC<|jc r7.abD<|jc r7.abE<|jc r7.abF<|jc aFz<|as0
def DY:aY:=⟨λf=>xk f as3,λf=>xk f UK⟩
theorem aFM:Ob DY where
 abH:=rfl
 RV:=rfl
 abI:=rfl
 abJ:=rfl
 abK:=rfl
 abL:=rfl
 abM:=rfl
 abN:=rfl
 abO:=rfl
 aCc:=rfl
 aCd:=rfl
 abP:=rfl
theorem aFN:hC DY where
 toOb:=aFM
 pt:=⟨rfl,rfl⟩
 kJ:=⟨rfl,rfl⟩
 vR:=⟨rfl,rfl⟩
 vS:=⟨rfl,rfl⟩
 pv:=⟨rfl,rfl⟩
 vT:=⟨rfl,rfl⟩
 tW:=⟨rfl,rfl⟩
 qt:=⟨rfl,rfl⟩
 tX:=⟨rfl,rfl⟩
 tY:=⟨rfl,rfl⟩
 tZ:=⟨rfl,rfl⟩
 sw:=⟨rfl,rfl⟩
 t':=⟨rfl,rfl⟩
 ua:=⟨rfl,rfl⟩
 vU:=⟨rfl,rfl⟩
 sx:=⟨rfl,rfl⟩
 vV:=⟨rfl,rfl⟩
 ub:=⟨rfl,rfl⟩
 vW:=⟨rfl,rfl⟩
 sy:=⟨rfl,rfl⟩
 uc:=⟨rfl,rfl⟩
 vX:=⟨rfl,rfl⟩
theorem aFO:hj DY where
 tohC:=aFN
 s7:=⟨rfl,rfl⟩
 pK:=⟨rfl,rfl⟩
 wV:=⟨rfl,rfl⟩
 wW:=⟨rfl,rfl⟩
 uY:=⟨rfl,rfl⟩
 uZ:=⟨rfl,rfl⟩
 u1:=⟨rfl,rfl⟩
 s8:=⟨rfl,rfl⟩
 wX:=⟨rfl,rfl⟩
 wY:=⟨rfl,rfl⟩
 wZ:=⟨rfl,rfl⟩
 u2:=⟨rfl,rfl⟩
 u3:=⟨rfl,rfl⟩
 w1:=⟨rfl,rfl⟩
 u4:=⟨rfl,rfl⟩
 w2:=⟨rfl,rfl⟩
 w3:=⟨rfl,rfl⟩
 u5:=⟨rfl,rfl⟩
 u6:=⟨rfl,rfl⟩
 u7:=⟨rfl,rfl⟩
 w4:=⟨rfl,rfl⟩
 w5:=⟨rfl,rfl⟩
 w6:=⟨rfl,rfl⟩
theorem cYr:bXd DY where
 tohj:=aFO
 begun:=rfl
 ll:=⟨rfl,rfl⟩
 wk:=⟨rfl,rfl⟩
theorem cYs:bWz DY where
 tobXd:=cYr
 bYP:=⟨rfl,rfl⟩
 bYQ:=⟨rfl,rfl⟩
 bYs:=⟨rfl,rfl⟩
 bYg:=⟨rfl,rfl⟩
theorem cYt:bWi DY where
 tobWz:=cYs
 bYG:=⟨rfl,rfl⟩
 bYH:=⟨rfl,rfl⟩
theorem cYu:bXp DY where
 tobWi:=cYt
 bYy:=⟨rfl,rfl⟩
 bYz:=⟨rfl,rfl⟩
 bYA:=⟨rfl,rfl⟩
 bYB:=⟨rfl,rfl⟩
theorem cYv:bWX DY where
 tobXp:=cYu
 bYD:=⟨rfl,rfl⟩
theorem cYw:bUs DY where
 tobWX:=cYv
 bYO:=⟨rfl,rfl⟩
theorem aFP(m d:Nat):fT iG Tryz.prog h2 (DY.K m d):=BZ (Em Dam.Tab.mixed) (λ_ _ h=>Hq aFK h) (λ_ db=>N7 db (ov:=λf=>xk f UK) λ_ _ h=>Hq aFL h) d
end Go.Dam.C
