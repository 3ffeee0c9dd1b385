/- The bodies are the program. -/
import Derived.Test.YthegokeehgnmhaaGreatDoorLawD
import Derived.Test.YthegokeehgnmhaaGreatDoorOvrTwo
import Derived.Test.YthegokeehgnmhaaGreatDoorTabOk
namespace Go.Dam.C
open Go Go.Dam Go.Proofs Go.RowKit Go.Dam.Tab
set_option maxRecDepth 1000000
abbrev DX:=Fc Tryz.prog h2
def xk{α:Type}(f:Nat):List (Nat×α)->Option α
 | []=>none
 | x::l=>bif Nat.beq f x.1 then some x.2 else xk f l
theorem Hq{α:Type}{Q:Nat->α->Prop}{f:Nat}{F:α}:∀{l:List (Nat×α)},(∀x∈l,Q x.1 x.2)->xk f l=some F->Q f F
 | [],_,h=>by cases h
 | x::l,bU,h=>by
   rw[xk,ed]at h;by_cases bc:f=x.1
   ·subst bc;simp only[decide_true,cond_true,a6]at h;exact h▸bU x (List.mem_cons_self)
   ·simp only[bc,decide_false,cond_false]at h;exact Hq (λy bu=>bU y (List.mem_cons_of_mem _ bu)) h
theorem asY{α:Type}(Q:Nat->α->Prop){k:Nat}{F:α}{l:List (Nat×α)}(h:Q k F)(t:∀x∈l,Q x.1 x.2):∀x∈(k,F)::l,Q x.1 x.2:=λx az=>by
 rcases lD.1 az with rfl | az
 ·exact h
 ·exact t x az
theorem asZ:∀x∈([]:List (Nat×b2)),DX x.1 x.2:=λ_ h=>by cases h
theorem as0{O:da}:∀x∈([]:List (Nat×yE)),gY O Tryz.prog h2 x.1 x.2:=λ_ h=>by cases h
theorem jc{O:da}{k:Nat}{F:yE}{l:List (Nat×yE)}(h:gY O Tryz.prog h2 k F)(t:∀x∈l,gY O Tryz.prog h2 x.1 x.2):∀x∈(k,F)::l,gY O Tryz.prog h2 x.1 x.2:=asY (gY O Tryz.prog h2) h t
theorem cC{k:Nat}{F:b2}{fn:Func}{l:List (Nat×b2)}(h:Tryz.prog.funcs[k]? = some fn)(he:ext k=false)(ei:sh Tryz.prog h2 fn=F)(t:∀x∈l,DX x.1 x.2):∀x∈(k,F)::l,DX x.1 x.2:=asY DX (by rw[<-ei];exact q h he) t
def as1:List (Nat×b2):=[(50,ja),(95,fB),(130,jm),(113,eK),(91,oD),(125,rn),(131,rp),(93,na),(126,wE),(241,qR),(202,rU),(205,rV),(207,qS),(114,uK),(206,wF),(133,qm),(203,uL),(204,wG),(132,wH),(59,uM),(83,sY),(197,sZ),(324,wI),(51,wJ),(84,oE),(58,lW),(94,tQ),(16,kp),(85,pr),(21,mI),(33,nx),(92,tR),(46,kG),(76,nV),(48,nW),(49,ke),(47,oG),(60,k7),(34,gE),(242,tS),(110,su),(82,tg),(81,th),(122,tj),(121,ti),(186,tk),(187,xj),(262,vl),(24,ll)]
theorem aFF:∀x∈as1,DX x.1 x.2:=cC Tryz.func50 rfl (by kernel_rfl)<|cC Tryz.func95 rfl (by kernel_rfl)<|cC Tryz.func130 rfl (by kernel_rfl)<|cC Tryz.func113 rfl (by kernel_rfl)<|cC Tryz.func91 rfl (by kernel_rfl)<|cC Tryz.func125 rfl (by kernel_rfl)<|cC Tryz.func131 rfl (by kernel_rfl)<|cC Tryz.func93 rfl (by kernel_rfl)<|cC Tryz.func126 rfl (by kernel_rfl)<|cC Tryz.func241 rfl (by kernel_rfl)<|cC Tryz.func202 rfl (by kernel_rfl)<|cC Tryz.func205 rfl (by kernel_rfl)<|cC Tryz.func207 rfl (by kernel_rfl)<|cC Tryz.func114 rfl (by kernel_rfl)<|cC Tryz.func206 rfl (by kernel_rfl)<|cC Tryz.func133 rfl (by kernel_rfl)<|cC Tryz.func203 rfl (by kernel_rfl)<|cC Tryz.func204 rfl (by kernel_rfl)<|cC Tryz.func132 rfl (by kernel_rfl)<|cC Tryz.func59 rfl (by kernel_rfl)<|cC Tryz.func83 rfl (by kernel_rfl)<|cC Tryz.func197 rfl (by kernel_rfl)<|cC Tryz.func324 rfl (by kernel_rfl)<|cC Tryz.func51 rfl (by kernel_rfl)<|cC Tryz.func84 rfl (by kernel_rfl)<|cC Tryz.func58 rfl (by kernel_rfl)<|cC Tryz.func94 rfl (by kernel_rfl)<|cC Tryz.func16 rfl (by kernel_rfl)<|cC Tryz.func85 rfl (by kernel_rfl)<|cC Tryz.func21 rfl (by kernel_rfl)<|cC Tryz.func33 rfl (by kernel_rfl)<|cC Tryz.func92 rfl (by kernel_rfl)<|cC Tryz.func46 rfl (by kernel_rfl)<|cC Tryz.func76 rfl (by kernel_rfl)<|cC Tryz.func48 rfl (by kernel_rfl)<|cC Tryz.func49 rfl (by kernel_rfl)<|cC Tryz.func47 rfl (by kernel_rfl)<|cC Tryz.func60 rfl (by kernel_rfl)<|cC Tryz.func34 rfl (by kernel_rfl)<|cC Tryz.func242 rfl (by kernel_rfl)<|cC Tryz.func110 rfl (by kernel_rfl)<|cC Tryz.func82 rfl (by kernel_rfl)<|cC Tryz.func81 rfl (by kernel_rfl)<|cC Tryz.func122 rfl (by kernel_rfl)<|cC Tryz.func121 rfl (by kernel_rfl)<|cC Tryz.func186 rfl (by kernel_rfl)<|cC Tryz.func187 rfl (by kernel_rfl)<|cC Tryz.func262 rfl (by kernel_rfl)<|cC Tryz.func24 rfl (by kernel_rfl)<|asZ
def UI:List (Nat×yE):=[(337,C.zu),(115,DV),(116,DW),(123,Hm),(124,Hn)]
theorem aFG:∀x∈UI,gY nz Tryz.prog h2 x.1 x.2:=jc aFy<|jc aFA<|jc aFB<|jc aFC<|jc aFE<|as0
def UJ:aY:=⟨λf=>xk f as1,λf=>xk f UI⟩
theorem aFH:fa UJ where
 ja:=⟨rfl,rfl⟩
 fB:=⟨rfl,rfl⟩
 jm:=⟨rfl,rfl⟩
 eK:=⟨rfl,rfl⟩
 oD:=⟨rfl,rfl⟩
 rn:=⟨rfl,rfl⟩
 rp:=⟨rfl,rfl⟩
 na:=⟨rfl,rfl⟩
 wE:=⟨rfl,rfl⟩
 qR:=⟨rfl,rfl⟩
 rU:=⟨rfl,rfl⟩
 rV:=⟨rfl,rfl⟩
 qS:=⟨rfl,rfl⟩
 uK:=⟨rfl,rfl⟩
 wF:=⟨rfl,rfl⟩
 qm:=⟨rfl,rfl⟩
 uL:=⟨rfl,rfl⟩
 wG:=⟨rfl,rfl⟩
 wH:=⟨rfl,rfl⟩
 uM:=⟨rfl,rfl⟩
 sY:=⟨rfl,rfl⟩
 sZ:=⟨rfl,rfl⟩
 wI:=⟨rfl,rfl⟩
 wJ:=⟨rfl,rfl⟩
 oE:=⟨rfl,rfl⟩
 lW:=⟨rfl,rfl⟩
 tQ:=⟨rfl,rfl⟩
 kp:=⟨rfl,rfl⟩
 pr:=⟨rfl,rfl⟩
 mI:=⟨rfl,rfl⟩
 nx:=⟨rfl,rfl⟩
 tR:=⟨rfl,rfl⟩
 kG:=⟨rfl,rfl⟩
 nV:=⟨rfl,rfl⟩
 nW:=⟨rfl,rfl⟩
 ke:=⟨rfl,rfl⟩
 oG:=⟨rfl,rfl⟩
 k7:=⟨rfl,rfl⟩
 gE:=⟨rfl,rfl⟩
 tS:=⟨rfl,rfl⟩
 su:=⟨rfl,rfl⟩
theorem aFI:kr UJ where
 tofa:=aFH
 idx:=rfl
 tg:=⟨rfl,rfl⟩
 th:=⟨rfl,rfl⟩
 tj:=⟨rfl,rfl⟩
 ti:=⟨rfl,rfl⟩
 tk:=⟨rfl,rfl⟩
 xj:=⟨rfl,rfl⟩
 vl:=⟨rfl,rfl⟩
 ll:=⟨rfl,rfl⟩
 fmt:=rfl
 rep:=rfl
 trim:=rfl
 parse:=rfl
theorem aFJ(m d:Nat):fT nz Tryz.prog h2 (UJ.K m d):=BZ (Em Dam.Tab.mixed) (λ_ _ h=>Hq aFF h) (λ_ db=>N7 db (ov:=λf=>xk f UI) λ_ _ h=>Hq aFG h) d
theorem as2(g:Nat)(h:h2 g=true):g=1:=by
 simp only[h2,ed,eh]at h;exact h
theorem r7:abt Tryz.prog h2:=aB9 rfl as2 aFJ aFI
def as3:List (Nat×b2):=[(118,pt),(53,kJ),(66,vR),(68,vS),(23,pv),(65,vT),(67,tW),(42,qt),(64,tX),(63,tY),(22,tZ),(62,sw),(56,B9),(43,t'),(13,ua),(35,vU),(86,sx),(54,vV),(18,ub),(38,vW),(61,sy),(89,uc),(117,vX),(8,s7),(69,pK),(70,wV),(25,wW),(74,uY),(75,uZ),(119,u1),(72,s8),(73,wX),(71,wY),(26,wZ),(80,u2),(32,u3),(77,w1),(120,u4),(78,w2),(28,w3),(79,u5),(29,u6),(31,u7),(27,w4),(30,w5),(6,w6),(24,ll),(5,wk),(7,bYi),(3,bYr)]
theorem aFK:∀x∈as3,DX x.1 x.2:=cC Tryz.func118 rfl (by kernel_rfl)<|cC Tryz.func53 rfl (by kernel_rfl)<|cC Tryz.func66 rfl (by kernel_rfl)<|cC Tryz.func68 rfl (by kernel_rfl)<|cC Tryz.func23 rfl (by kernel_rfl)<|cC Tryz.func65 rfl (by kernel_rfl)<|cC Tryz.func67 rfl (by kernel_rfl)<|cC Tryz.func42 rfl (by kernel_rfl)<|cC Tryz.func64 rfl (by kernel_rfl)<|cC Tryz.func63 rfl (by kernel_rfl)<|cC Tryz.func22 rfl (by kernel_rfl)<|cC Tryz.func62 rfl (by kernel_rfl)<|cC Tryz.func56 rfl (by kernel_rfl)<|cC Tryz.func43 rfl (by kernel_rfl)<|cC Tryz.func13 rfl (by kernel_rfl)<|cC Tryz.func35 rfl (by kernel_rfl)<|cC Tryz.func86 rfl (by kernel_rfl)<|cC Tryz.func54 rfl (by kernel_rfl)<|cC Tryz.func18 rfl (by kernel_rfl)<|cC Tryz.func38 rfl (by kernel_rfl)<|cC Tryz.func61 rfl (by kernel_rfl)<|cC Tryz.func89 rfl (by kernel_rfl)<|cC Tryz.func117 rfl (by kernel_rfl)<|cC Tryz.func8 rfl (by kernel_rfl)<|cC Tryz.func69 rfl (by kernel_rfl)<|cC Tryz.func70 rfl (by kernel_rfl)<|cC Tryz.func25 rfl (by kernel_rfl)<|cC Tryz.func74 rfl (by kernel_rfl)<|cC Tryz.func75 rfl (by kernel_rfl)<|cC Tryz.func119 rfl (by kernel_rfl)<|cC Tryz.func72 rfl (by kernel_rfl)<|cC Tryz.func73 rfl (by kernel_rfl)<|cC Tryz.func71 rfl (by kernel_rfl)<|cC Tryz.func26 rfl (by kernel_rfl)<|cC Tryz.func80 rfl (by kernel_rfl)<|cC Tryz.func32 rfl (by kernel_rfl)<|cC Tryz.func77 rfl (by kernel_rfl)<|cC Tryz.func120 rfl (by kernel_rfl)<|cC Tryz.func78 rfl (by kernel_rfl)<|cC Tryz.func28 rfl (by kernel_rfl)<|cC Tryz.func79 rfl (by kernel_rfl)<|cC Tryz.func29 rfl (by kernel_rfl)<|cC Tryz.func31 rfl (by kernel_rfl)<|cC Tryz.func27 rfl (by kernel_rfl)<|cC Tryz.func30 rfl (by kernel_rfl)<|cC Tryz.func6 rfl (by kernel_rfl)<|cC Tryz.func24 rfl (by kernel_rfl)<|cC Tryz.func5 rfl (by kernel_rfl)<|cC Tryz.func7 rfl (by kernel_rfl)<|cC Tryz.func3 rfl (by kernel_rfl)<|asZ
def UK:List (Nat×yE):=[(16,eM Gx),(33,eM Dp),(46,eM KZ),(48,eM K0),(49,eM K1),(47,eM K2),(60,eM K3),(76,eM K4),(34,eM K5),(242,eM RT),(110,eM RU),(21,eM K6),(4,Fu)]
theorem aFL:∀x∈UK,gY iG Tryz.prog h2 x.1 x.2:=jc r7.abu<|jc r7.abv<|jc r7.abw<|jc r7.abx<|jc r7.aby<|jc r7.abz<|jc r7.abA<|jc r7.abB<|jc r7.abC<|jc r7.abD<|jc r7.abE<|jc r7.abF<|jc aFz<|as0
def DY:aY:=⟨λf=>xk f as3,λf=>xk f UK⟩
theorem aFM:Ob DY where
 abH:=rfl
 RV:=rfl
 abI:=rfl
 abJ:=rfl
 abK:=rfl
 abL:=rfl
 abM:=rfl
 abN:=rfl
 abO:=rfl
 aCc:=rfl
 aCd:=rfl
 abP:=rfl
theorem aFN:hC DY where
 toOb:=aFM
 pt:=⟨rfl,rfl⟩
 kJ:=⟨rfl,rfl⟩
 vR:=⟨rfl,rfl⟩
 vS:=⟨rfl,rfl⟩
 pv:=⟨rfl,rfl⟩
 vT:=⟨rfl,rfl⟩
 tW:=⟨rfl,rfl⟩
 qt:=⟨rfl,rfl⟩
 tX:=⟨rfl,rfl⟩
 tY:=⟨rfl,rfl⟩
 tZ:=⟨rfl,rfl⟩
 sw:=⟨rfl,rfl⟩
 B9:=⟨rfl,rfl⟩
 t':=⟨rfl,rfl⟩
 ua:=⟨rfl,rfl⟩
 vU:=⟨rfl,rfl⟩
 sx:=⟨rfl,rfl⟩
 vV:=⟨rfl,rfl⟩
 ub:=⟨rfl,rfl⟩
 vW:=⟨rfl,rfl⟩
 sy:=⟨rfl,rfl⟩
 uc:=⟨rfl,rfl⟩
 vX:=⟨rfl,rfl⟩
theorem aFO:hj DY where
 tohC:=aFN
 s7:=⟨rfl,rfl⟩
 pK:=⟨rfl,rfl⟩
 wV:=⟨rfl,rfl⟩
 wW:=⟨rfl,rfl⟩
 uY:=⟨rfl,rfl⟩
 uZ:=⟨rfl,rfl⟩
 u1:=⟨rfl,rfl⟩
 s8:=⟨rfl,rfl⟩
 wX:=⟨rfl,rfl⟩
 wY:=⟨rfl,rfl⟩
 wZ:=⟨rfl,rfl⟩
 u2:=⟨rfl,rfl⟩
 u3:=⟨rfl,rfl⟩
 w1:=⟨rfl,rfl⟩
 u4:=⟨rfl,rfl⟩
 w2:=⟨rfl,rfl⟩
 w3:=⟨rfl,rfl⟩
 u5:=⟨rfl,rfl⟩
 u6:=⟨rfl,rfl⟩
 u7:=⟨rfl,rfl⟩
 w4:=⟨rfl,rfl⟩
 w5:=⟨rfl,rfl⟩
 w6:=⟨rfl,rfl⟩
theorem bQg:bYF DY where
 tohj:=aFO
 begun:=rfl
 ll:=⟨rfl,rfl⟩
 wk:=⟨rfl,rfl⟩
theorem bQh:bWa DY where
 tobYF:=bQg
 bYi:=⟨rfl,rfl⟩
theorem bQi:bWU DY where
 tobWa:=bQh
 bYr:=⟨rfl,rfl⟩
theorem aFP(m d:Nat):fT iG Tryz.prog h2 (DY.K m d):=BZ (Em Dam.Tab.mixed) (λ_ _ h=>Hq aFK h) (λ_ db=>N7 db (ov:=λf=>xk f UK) λ_ _ h=>Hq aFL h) d
end Go.Dam.C
