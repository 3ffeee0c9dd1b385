/- The bodies are the program. -/
import Derived.Test.YtekdmgimlfodkaaGreatDoorLawD
import Derived.Test.YtekdmgimlfodkaaGreatDoorOvrTwo
import Derived.Test.YtekdmgimlfodkaaGreatDoorTabOk
namespace Go.Dam.C
open Go Go.Dam Go.Proofs Go.RowKit Go.Dam.Tab
set_option maxRecDepth 1000000
abbrev DX:=Fc Tryz.prog h2
def xk{α:Type}(f:Nat):List (Nat×α)->Option α
 | []=>none
 | x::l=>bif Nat.beq f x.1 then some x.2 else xk f l
theorem Hq{α:Type}{Q:Nat->α->Prop}{f:Nat}{F:α}:∀{l:List (Nat×α)},(∀x∈l,Q x.1 x.2)->xk f l=some F->Q f F
 | [],_,h=>by cases h
 | x::l,bU,h=>by
   rw[xk,ed]at h;by_cases bc:f=x.1
   ·subst bc;simp only[decide_true,cond_true,a6]at h;exact h▸bU x (List.mem_cons_self)
   ·simp only[bc,decide_false,cond_false]at h;exact Hq (λy bu=>bU y (List.mem_cons_of_mem _ bu)) h
theorem asY{α:Type}(Q:Nat->α->Prop){k:Nat}{F:α}{l:List (Nat×α)}(h:Q k F)(t:∀x∈l,Q x.1 x.2):∀x∈(k,F)::l,Q x.1 x.2:=λx az=>by
 rcases lD.1 az with rfl | az
 ·exact h
 ·exact t x az
theorem asZ:∀x∈([]:List (Nat×b2)),DX x.1 x.2:=λ_ h=>by cases h
theorem as0{O:da}:∀x∈([]:List (Nat×yE)),gY O Tryz.prog h2 x.1 x.2:=λ_ h=>by cases h
theorem jc{O:da}{k:Nat}{F:yE}{l:List (Nat×yE)}(h:gY O Tryz.prog h2 k F)(t:∀x∈l,gY O Tryz.prog h2 x.1 x.2):∀x∈(k,F)::l,gY O Tryz.prog h2 x.1 x.2:=asY (gY O Tryz.prog h2) h t
theorem cC{k:Nat}{F:b2}{fn:Func}{l:List (Nat×b2)}(h:Tryz.prog.funcs[k]? = some fn)(he:ext k=false)(ei:sh Tryz.prog h2 fn=F)(t:∀x∈l,DX x.1 x.2):∀x∈(k,F)::l,DX x.1 x.2:=asY DX (by rw[<-ei];exact q h he) t
def as1:List (Nat×b2):=[(47,ja),(90,fB),(124,jm),(112,eK),(86,oD),(125,rn),(126,rp),(88,na),(123,wE),(229,qR),(190,rU),(193,rV),(195,qS),(113,uK),(194,wF),(128,qm),(191,uL),(192,wG),(127,wH),(58,uM),(107,sY),(189,sZ),(309,wI),(48,wJ),(84,oE),(57,lW),(89,tQ),(14,kp),(85,pr),(20,mI),(53,nx),(87,tR),(43,kG),(77,nV),(45,nW),(46,ke),(44,oG),(59,k7),(42,gE),(230,tS),(109,su),(106,tg),(105,th),(171,tj),(170,ti),(241,tk),(242,xj),(315,vl)]
theorem aFF:∀x∈as1,DX x.1 x.2:=cC Tryz.func47 rfl (by kernel_rfl)<|cC Tryz.func90 rfl (by kernel_rfl)<|cC Tryz.func124 rfl (by kernel_rfl)<|cC Tryz.func112 rfl (by kernel_rfl)<|cC Tryz.func86 rfl (by kernel_rfl)<|cC Tryz.func125 rfl (by kernel_rfl)<|cC Tryz.func126 rfl (by kernel_rfl)<|cC Tryz.func88 rfl (by kernel_rfl)<|cC Tryz.func123 rfl (by kernel_rfl)<|cC Tryz.func229 rfl (by kernel_rfl)<|cC Tryz.func190 rfl (by kernel_rfl)<|cC Tryz.func193 rfl (by kernel_rfl)<|cC Tryz.func195 rfl (by kernel_rfl)<|cC Tryz.func113 rfl (by kernel_rfl)<|cC Tryz.func194 rfl (by kernel_rfl)<|cC Tryz.func128 rfl (by kernel_rfl)<|cC Tryz.func191 rfl (by kernel_rfl)<|cC Tryz.func192 rfl (by kernel_rfl)<|cC Tryz.func127 rfl (by kernel_rfl)<|cC Tryz.func58 rfl (by kernel_rfl)<|cC Tryz.func107 rfl (by kernel_rfl)<|cC Tryz.func189 rfl (by kernel_rfl)<|cC Tryz.func309 rfl (by kernel_rfl)<|cC Tryz.func48 rfl (by kernel_rfl)<|cC Tryz.func84 rfl (by kernel_rfl)<|cC Tryz.func57 rfl (by kernel_rfl)<|cC Tryz.func89 rfl (by kernel_rfl)<|cC Tryz.func14 rfl (by kernel_rfl)<|cC Tryz.func85 rfl (by kernel_rfl)<|cC Tryz.func20 rfl (by kernel_rfl)<|cC Tryz.func53 rfl (by kernel_rfl)<|cC Tryz.func87 rfl (by kernel_rfl)<|cC Tryz.func43 rfl (by kernel_rfl)<|cC Tryz.func77 rfl (by kernel_rfl)<|cC Tryz.func45 rfl (by kernel_rfl)<|cC Tryz.func46 rfl (by kernel_rfl)<|cC Tryz.func44 rfl (by kernel_rfl)<|cC Tryz.func59 rfl (by kernel_rfl)<|cC Tryz.func42 rfl (by kernel_rfl)<|cC Tryz.func230 rfl (by kernel_rfl)<|cC Tryz.func109 rfl (by kernel_rfl)<|cC Tryz.func106 rfl (by kernel_rfl)<|cC Tryz.func105 rfl (by kernel_rfl)<|cC Tryz.func171 rfl (by kernel_rfl)<|cC Tryz.func170 rfl (by kernel_rfl)<|cC Tryz.func241 rfl (by kernel_rfl)<|cC Tryz.func242 rfl (by kernel_rfl)<|cC Tryz.func315 rfl (by kernel_rfl)<|asZ
def UI:List (Nat×yE):=[(355,C.zu),(114,DV),(115,DW),(172,Hm),(173,Hn)]
theorem aFG:∀x∈UI,gY nz Tryz.prog h2 x.1 x.2:=jc aFy<|jc aFA<|jc aFB<|jc aFC<|jc aFE<|as0
def UJ:aY:=⟨λf=>xk f as1,λf=>xk f UI⟩
theorem aFH:fa UJ where
 ja:=⟨rfl,rfl⟩
 fB:=⟨rfl,rfl⟩
 jm:=⟨rfl,rfl⟩
 eK:=⟨rfl,rfl⟩
 oD:=⟨rfl,rfl⟩
 rn:=⟨rfl,rfl⟩
 rp:=⟨rfl,rfl⟩
 na:=⟨rfl,rfl⟩
 wE:=⟨rfl,rfl⟩
 qR:=⟨rfl,rfl⟩
 rU:=⟨rfl,rfl⟩
 rV:=⟨rfl,rfl⟩
 qS:=⟨rfl,rfl⟩
 uK:=⟨rfl,rfl⟩
 wF:=⟨rfl,rfl⟩
 qm:=⟨rfl,rfl⟩
 uL:=⟨rfl,rfl⟩
 wG:=⟨rfl,rfl⟩
 wH:=⟨rfl,rfl⟩
 uM:=⟨rfl,rfl⟩
 sY:=⟨rfl,rfl⟩
 sZ:=⟨rfl,rfl⟩
 wI:=⟨rfl,rfl⟩
 wJ:=⟨rfl,rfl⟩
 oE:=⟨rfl,rfl⟩
 lW:=⟨rfl,rfl⟩
 tQ:=⟨rfl,rfl⟩
 kp:=⟨rfl,rfl⟩
 pr:=⟨rfl,rfl⟩
 mI:=⟨rfl,rfl⟩
 nx:=⟨rfl,rfl⟩
 tR:=⟨rfl,rfl⟩
 kG:=⟨rfl,rfl⟩
 nV:=⟨rfl,rfl⟩
 nW:=⟨rfl,rfl⟩
 ke:=⟨rfl,rfl⟩
 oG:=⟨rfl,rfl⟩
 k7:=⟨rfl,rfl⟩
 gE:=⟨rfl,rfl⟩
 tS:=⟨rfl,rfl⟩
 su:=⟨rfl,rfl⟩
theorem aFI:kr UJ where
 tofa:=aFH
 idx:=rfl
 tg:=⟨rfl,rfl⟩
 th:=⟨rfl,rfl⟩
 tj:=⟨rfl,rfl⟩
 ti:=⟨rfl,rfl⟩
 tk:=⟨rfl,rfl⟩
 xj:=⟨rfl,rfl⟩
 vl:=⟨rfl,rfl⟩
 fmt:=rfl
 rep:=rfl
 trim:=rfl
 parse:=rfl
theorem aFJ(m d:Nat):fT nz Tryz.prog h2 (UJ.K m d):=BZ (Em Dam.Tab.mixed) (λ_ _ h=>Hq aFF h) (λ_ db=>N7 db (ov:=λf=>xk f UI) λ_ _ h=>Hq aFG h) d
theorem as2(g:Nat)(h:h2 g=true):g=1:=by
 simp only[h2,ed,eh]at h;exact h
theorem r7:abt Tryz.prog h2:=aB9 rfl as2 aFJ aFI
def as3:List (Nat×b2):=[(117,pt),(50,kJ),(65,vR),(67,vS),(22,pv),(64,vT),(66,tW),(38,qt),(39,t'),(11,ua),(24,vW),(60,sy),(68,uc),(116,vX),(70,pK),(71,wV),(28,wW),(75,uY),(76,uZ),(121,u1),(73,s8),(74,wX),(72,wY),(29,wZ),(81,u2),(35,u3),(78,w1),(122,u4),(79,w2),(31,w3),(80,u5),(32,u6),(34,u7),(30,w4),(33,w5),(8,w6),(23,ll),(5,wk),(26,bYJ),(82,bXU),(83,bXV),(36,bXw),(9,bXx),(185,bYW),(120,bXA),(118,bYX),(186,bXB),(261,bXk),(187,bXC),(119,bXD),(69,bXE),(27,bXF),(6,bYU),(25,bXG),(188,bYY),(3,bXT)]
theorem aFK:∀x∈as3,DX x.1 x.2:=cC Tryz.func117 rfl (by kernel_rfl)<|cC Tryz.func50 rfl (by kernel_rfl)<|cC Tryz.func65 rfl (by kernel_rfl)<|cC Tryz.func67 rfl (by kernel_rfl)<|cC Tryz.func22 rfl (by kernel_rfl)<|cC Tryz.func64 rfl (by kernel_rfl)<|cC Tryz.func66 rfl (by kernel_rfl)<|cC Tryz.func38 rfl (by kernel_rfl)<|cC Tryz.func39 rfl (by kernel_rfl)<|cC Tryz.func11 rfl (by kernel_rfl)<|cC Tryz.func24 rfl (by kernel_rfl)<|cC Tryz.func60 rfl (by kernel_rfl)<|cC Tryz.func68 rfl (by kernel_rfl)<|cC Tryz.func116 rfl (by kernel_rfl)<|cC Tryz.func70 rfl (by kernel_rfl)<|cC Tryz.func71 rfl (by kernel_rfl)<|cC Tryz.func28 rfl (by kernel_rfl)<|cC Tryz.func75 rfl (by kernel_rfl)<|cC Tryz.func76 rfl (by kernel_rfl)<|cC Tryz.func121 rfl (by kernel_rfl)<|cC Tryz.func73 rfl (by kernel_rfl)<|cC Tryz.func74 rfl (by kernel_rfl)<|cC Tryz.func72 rfl (by kernel_rfl)<|cC Tryz.func29 rfl (by kernel_rfl)<|cC Tryz.func81 rfl (by kernel_rfl)<|cC Tryz.func35 rfl (by kernel_rfl)<|cC Tryz.func78 rfl (by kernel_rfl)<|cC Tryz.func122 rfl (by kernel_rfl)<|cC Tryz.func79 rfl (by kernel_rfl)<|cC Tryz.func31 rfl (by kernel_rfl)<|cC Tryz.func80 rfl (by kernel_rfl)<|cC Tryz.func32 rfl (by kernel_rfl)<|cC Tryz.func34 rfl (by kernel_rfl)<|cC Tryz.func30 rfl (by kernel_rfl)<|cC Tryz.func33 rfl (by kernel_rfl)<|cC Tryz.func8 rfl (by kernel_rfl)<|cC Tryz.func23 rfl (by kernel_rfl)<|cC Tryz.func5 rfl (by kernel_rfl)<|cC Tryz.func26 rfl (by kernel_rfl)<|cC Tryz.func82 rfl (by kernel_rfl)<|cC Tryz.func83 rfl (by kernel_rfl)<|cC Tryz.func36 rfl (by kernel_rfl)<|cC Tryz.func9 rfl (by kernel_rfl)<|cC Tryz.func185 rfl (by kernel_rfl)<|cC Tryz.func120 rfl (by kernel_rfl)<|cC Tryz.func118 rfl (by kernel_rfl)<|cC Tryz.func186 rfl (by kernel_rfl)<|cC Tryz.func261 rfl (by kernel_rfl)<|cC Tryz.func187 rfl (by kernel_rfl)<|cC Tryz.func119 rfl (by kernel_rfl)<|cC Tryz.func69 rfl (by kernel_rfl)<|cC Tryz.func27 rfl (by kernel_rfl)<|cC Tryz.func6 rfl (by kernel_rfl)<|cC Tryz.func25 rfl (by kernel_rfl)<|cC Tryz.func188 rfl (by kernel_rfl)<|cC Tryz.func3 rfl (by kernel_rfl)<|asZ
def UK:List (Nat×yE):=[(14,eM Gx),(53,eM Dp),(43,eM KZ),(45,eM K0),(46,eM K1),(44,eM K2),(59,eM K3),(77,eM K4),(42,eM K5),(230,eM RT),(109,eM RU),(20,eM K6),(4,Fu)]
theorem aFL:∀x∈UK,gY iG Tryz.prog h2 x.1 x.2:=jc r7.abu<|jc r7.abv<|jc r7.abw<|jc r7.abx<|jc r7.aby<|jc r7.abz<|jc r7.abA<|jc r7.abB<|jc r7.abC<|jc r7.abD<|jc r7.abE<|jc r7.abF<|jc aFz<|as0
def DY:aY:=⟨λf=>xk f as3,λf=>xk f UK⟩
theorem aFM:Ob DY where
 abH:=rfl
 RV:=rfl
 abI:=rfl
 abJ:=rfl
 abK:=rfl
 abL:=rfl
 abM:=rfl
 abN:=rfl
 abO:=rfl
 aCc:=rfl
 aCd:=rfl
 abP:=rfl
theorem aFN:hC DY where
 toOb:=aFM
 pt:=⟨rfl,rfl⟩
 kJ:=⟨rfl,rfl⟩
 vR:=⟨rfl,rfl⟩
 vS:=⟨rfl,rfl⟩
 pv:=⟨rfl,rfl⟩
 vT:=⟨rfl,rfl⟩
 tW:=⟨rfl,rfl⟩
 qt:=⟨rfl,rfl⟩
 t':=⟨rfl,rfl⟩
 ua:=⟨rfl,rfl⟩
 vW:=⟨rfl,rfl⟩
 sy:=⟨rfl,rfl⟩
 uc:=⟨rfl,rfl⟩
 vX:=⟨rfl,rfl⟩
theorem aFO:hj DY where
 tohC:=aFN
 pK:=⟨rfl,rfl⟩
 wV:=⟨rfl,rfl⟩
 wW:=⟨rfl,rfl⟩
 uY:=⟨rfl,rfl⟩
 uZ:=⟨rfl,rfl⟩
 u1:=⟨rfl,rfl⟩
 s8:=⟨rfl,rfl⟩
 wX:=⟨rfl,rfl⟩
 wY:=⟨rfl,rfl⟩
 wZ:=⟨rfl,rfl⟩
 u2:=⟨rfl,rfl⟩
 u3:=⟨rfl,rfl⟩
 w1:=⟨rfl,rfl⟩
 u4:=⟨rfl,rfl⟩
 w2:=⟨rfl,rfl⟩
 w3:=⟨rfl,rfl⟩
 u5:=⟨rfl,rfl⟩
 u6:=⟨rfl,rfl⟩
 u7:=⟨rfl,rfl⟩
 w4:=⟨rfl,rfl⟩
 w5:=⟨rfl,rfl⟩
 w6:=⟨rfl,rfl⟩
theorem dYb:bWo DY where
 tohj:=aFO
 begun:=rfl
 ll:=⟨rfl,rfl⟩
 wk:=⟨rfl,rfl⟩
theorem dYc:bUf DY where
 tobWo:=dYb
 bYJ:=⟨rfl,rfl⟩
 bXU:=⟨rfl,rfl⟩
 bXV:=⟨rfl,rfl⟩
 bXw:=⟨rfl,rfl⟩
theorem dYd:bQp DY where
 tobUf:=dYc
 bXx:=⟨rfl,rfl⟩
theorem dYe:bYH DY where
 tobQp:=dYd
 bYW:=⟨rfl,rfl⟩
 bXA:=⟨rfl,rfl⟩
 bYX:=⟨rfl,rfl⟩
 bXB:=⟨rfl,rfl⟩
 bXk:=⟨rfl,rfl⟩
 bXC:=⟨rfl,rfl⟩
 bXD:=⟨rfl,rfl⟩
 bXE:=⟨rfl,rfl⟩
 bXF:=⟨rfl,rfl⟩
 bYU:=⟨rfl,rfl⟩
 bXG:=⟨rfl,rfl⟩
 bYY:=⟨rfl,rfl⟩
theorem dYf:cYa DY where
 tobYH:=dYe
 bXT:=⟨rfl,rfl⟩
theorem aFP(m d:Nat):fT iG Tryz.prog h2 (DY.K m d):=BZ (Em Dam.Tab.mixed) (λ_ _ h=>Hq aFK h) (λ_ db=>N7 db (ov:=λf=>xk f UK) λ_ _ h=>Hq aFL h) d
end Go.Dam.C
