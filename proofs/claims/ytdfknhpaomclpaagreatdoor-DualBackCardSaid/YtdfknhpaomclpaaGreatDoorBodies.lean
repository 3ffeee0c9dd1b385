/- The bodies are the program. -/
import Derived.Test.YtdfknhpaomclpaaGreatDoorLawD
import Derived.Test.YtdfknhpaomclpaaGreatDoorOvrTwo
import Derived.Test.YtdfknhpaomclpaaGreatDoorTabOk
namespace Go.Dam.C
open Go Go.Dam Go.Proofs Go.RowKit Go.Dam.Tab
set_option maxRecDepth 1000000
abbrev DX:=Fc Tryz.prog h2
def xk{α:Type}(f:Nat):List (Nat×α)->Option α
 | []=>none
 | x::l=>bif Nat.beq f x.1 then some x.2 else xk f l
theorem Hq{α:Type}{Q:Nat->α->Prop}{f:Nat}{F:α}:∀{l:List (Nat×α)},(∀x∈l,Q x.1 x.2)->xk f l=some F->Q f F
 | [],_,h=>by cases h
 | x::l,bU,h=>by
   rw[xk,ed]at h;by_cases bc:f=x.1
   ·subst bc;simp only[decide_true,cond_true,a6]at h;exact h▸bU x (List.mem_cons_self)
   ·simp only[bc,decide_false,cond_false]at h;exact Hq (λy bu=>bU y (List.mem_cons_of_mem _ bu)) h
theorem asY{α:Type}(Q:Nat->α->Prop){k:Nat}{F:α}{l:List (Nat×α)}(h:Q k F)(t:∀x∈l,Q x.1 x.2):∀x∈(k,F)::l,Q x.1 x.2:=λx az=>by
 rcases lD.1 az with rfl | az
 ·exact h
 ·exact t x az
theorem asZ:∀x∈([]:List (Nat×b2)),DX x.1 x.2:=λ_ h=>by cases h
theorem as0{O:da}:∀x∈([]:List (Nat×yE)),gY O Tryz.prog h2 x.1 x.2:=λ_ h=>by cases h
theorem jc{O:da}{k:Nat}{F:yE}{l:List (Nat×yE)}(h:gY O Tryz.prog h2 k F)(t:∀x∈l,gY O Tryz.prog h2 x.1 x.2):∀x∈(k,F)::l,gY O Tryz.prog h2 x.1 x.2:=asY (gY O Tryz.prog h2) h t
theorem cC{k:Nat}{F:b2}{fn:Func}{l:List (Nat×b2)}(h:Tryz.prog.funcs[k]? = some fn)(he:ext k=false)(ei:sh Tryz.prog h2 fn=F)(t:∀x∈l,DX x.1 x.2):∀x∈(k,F)::l,DX x.1 x.2:=asY DX (by rw[<-ei];exact q h he) t
def as1:List (Nat×b2):=[(49,ja),(94,fB),(129,jm),(112,eK),(90,oD),(122,rn),(130,rp),(92,na),(123,wE),(240,qR),(201,rU),(204,rV),(206,qS),(113,uK),(205,wF),(132,qm),(202,uL),(203,wG),(131,wH),(58,uM),(72,sY),(196,sZ),(323,wI),(50,wJ),(73,oE),(57,lW),(93,tQ),(16,kp),(74,pr),(21,mI),(26,nx),(91,tR),(45,kG),(83,nV),(47,nW),(48,ke),(46,oG),(59,k7),(27,gE),(241,tS),(109,su),(71,tg),(70,th),(119,tj),(118,ti),(185,tk),(186,xj),(261,vl),(8,ll)]
theorem aFF:∀x∈as1,DX x.1 x.2:=cC Tryz.func49 rfl (by kernel_rfl)<|cC Tryz.func94 rfl (by kernel_rfl)<|cC Tryz.func129 rfl (by kernel_rfl)<|cC Tryz.func112 rfl (by kernel_rfl)<|cC Tryz.func90 rfl (by kernel_rfl)<|cC Tryz.func122 rfl (by kernel_rfl)<|cC Tryz.func130 rfl (by kernel_rfl)<|cC Tryz.func92 rfl (by kernel_rfl)<|cC Tryz.func123 rfl (by kernel_rfl)<|cC Tryz.func240 rfl (by kernel_rfl)<|cC Tryz.func201 rfl (by kernel_rfl)<|cC Tryz.func204 rfl (by kernel_rfl)<|cC Tryz.func206 rfl (by kernel_rfl)<|cC Tryz.func113 rfl (by kernel_rfl)<|cC Tryz.func205 rfl (by kernel_rfl)<|cC Tryz.func132 rfl (by kernel_rfl)<|cC Tryz.func202 rfl (by kernel_rfl)<|cC Tryz.func203 rfl (by kernel_rfl)<|cC Tryz.func131 rfl (by kernel_rfl)<|cC Tryz.func58 rfl (by kernel_rfl)<|cC Tryz.func72 rfl (by kernel_rfl)<|cC Tryz.func196 rfl (by kernel_rfl)<|cC Tryz.func323 rfl (by kernel_rfl)<|cC Tryz.func50 rfl (by kernel_rfl)<|cC Tryz.func73 rfl (by kernel_rfl)<|cC Tryz.func57 rfl (by kernel_rfl)<|cC Tryz.func93 rfl (by kernel_rfl)<|cC Tryz.func16 rfl (by kernel_rfl)<|cC Tryz.func74 rfl (by kernel_rfl)<|cC Tryz.func21 rfl (by kernel_rfl)<|cC Tryz.func26 rfl (by kernel_rfl)<|cC Tryz.func91 rfl (by kernel_rfl)<|cC Tryz.func45 rfl (by kernel_rfl)<|cC Tryz.func83 rfl (by kernel_rfl)<|cC Tryz.func47 rfl (by kernel_rfl)<|cC Tryz.func48 rfl (by kernel_rfl)<|cC Tryz.func46 rfl (by kernel_rfl)<|cC Tryz.func59 rfl (by kernel_rfl)<|cC Tryz.func27 rfl (by kernel_rfl)<|cC Tryz.func241 rfl (by kernel_rfl)<|cC Tryz.func109 rfl (by kernel_rfl)<|cC Tryz.func71 rfl (by kernel_rfl)<|cC Tryz.func70 rfl (by kernel_rfl)<|cC Tryz.func119 rfl (by kernel_rfl)<|cC Tryz.func118 rfl (by kernel_rfl)<|cC Tryz.func185 rfl (by kernel_rfl)<|cC Tryz.func186 rfl (by kernel_rfl)<|cC Tryz.func261 rfl (by kernel_rfl)<|cC Tryz.func8 rfl (by kernel_rfl)<|asZ
def UI:List (Nat×yE):=[(336,C.zu),(114,DV),(115,DW),(120,Hm),(121,Hn)]
theorem aFG:∀x∈UI,gY nz Tryz.prog h2 x.1 x.2:=jc aFy<|jc aFA<|jc aFB<|jc aFC<|jc aFE<|as0
def UJ:aY:=⟨λf=>xk f as1,λf=>xk f UI⟩
theorem aFH:fa UJ where
 ja:=⟨rfl,rfl⟩
 fB:=⟨rfl,rfl⟩
 jm:=⟨rfl,rfl⟩
 eK:=⟨rfl,rfl⟩
 oD:=⟨rfl,rfl⟩
 rn:=⟨rfl,rfl⟩
 rp:=⟨rfl,rfl⟩
 na:=⟨rfl,rfl⟩
 wE:=⟨rfl,rfl⟩
 qR:=⟨rfl,rfl⟩
 rU:=⟨rfl,rfl⟩
 rV:=⟨rfl,rfl⟩
 qS:=⟨rfl,rfl⟩
 uK:=⟨rfl,rfl⟩
 wF:=⟨rfl,rfl⟩
 qm:=⟨rfl,rfl⟩
 uL:=⟨rfl,rfl⟩
 wG:=⟨rfl,rfl⟩
 wH:=⟨rfl,rfl⟩
 uM:=⟨rfl,rfl⟩
 sY:=⟨rfl,rfl⟩
 sZ:=⟨rfl,rfl⟩
 wI:=⟨rfl,rfl⟩
 wJ:=⟨rfl,rfl⟩
 oE:=⟨rfl,rfl⟩
 lW:=⟨rfl,rfl⟩
 tQ:=⟨rfl,rfl⟩
 kp:=⟨rfl,rfl⟩
 pr:=⟨rfl,rfl⟩
 mI:=⟨rfl,rfl⟩
 nx:=⟨rfl,rfl⟩
 tR:=⟨rfl,rfl⟩
 kG:=⟨rfl,rfl⟩
 nV:=⟨rfl,rfl⟩
 nW:=⟨rfl,rfl⟩
 ke:=⟨rfl,rfl⟩
 oG:=⟨rfl,rfl⟩
 k7:=⟨rfl,rfl⟩
 gE:=⟨rfl,rfl⟩
 tS:=⟨rfl,rfl⟩
 su:=⟨rfl,rfl⟩
theorem aFI:kr UJ where
 tofa:=aFH
 idx:=rfl
 tg:=⟨rfl,rfl⟩
 th:=⟨rfl,rfl⟩
 tj:=⟨rfl,rfl⟩
 ti:=⟨rfl,rfl⟩
 tk:=⟨rfl,rfl⟩
 xj:=⟨rfl,rfl⟩
 vl:=⟨rfl,rfl⟩
 ll:=⟨rfl,rfl⟩
 fmt:=rfl
 rep:=rfl
 trim:=rfl
 parse:=rfl
theorem aFJ(m d:Nat):fT nz Tryz.prog h2 (UJ.K m d):=BZ (Em Dam.Tab.mixed) (λ_ _ h=>Hq aFF h) (λ_ db=>N7 db (ov:=λf=>xk f UI) λ_ _ h=>Hq aFG h) d
theorem as2(g:Nat)(h:h2 g=true):g=1:=by
 simp only[h2,ed,eh]at h;exact h
theorem r7:abt Tryz.prog h2:=aB9 rfl as2 aFJ aFI
def as3:List (Nat×b2):=[(117,pt),(52,kJ),(65,vR),(67,vS),(23,pv),(64,vT),(66,tW),(41,qt),(63,tX),(62,tY),(22,tZ),(61,sw),(55,B9),(42,t'),(13,ua),(28,vU),(75,sx),(53,vV),(18,ub),(37,vW),(60,sy),(88,uc),(116,vX),(9,s7),(76,pK),(77,wV),(29,wW),(81,uY),(82,uZ),(124,u1),(79,s8),(80,wX),(78,wY),(30,wZ),(87,u2),(36,u3),(84,w1),(125,u4),(85,w2),(32,w3),(86,u5),(33,u6),(35,u7),(31,w4),(34,w5),(11,w6),(8,ll),(5,wk),(39,cZh),(68,cZi),(69,cZj),(24,cZc),(6,cZe),(25,cZf),(7,cZd),(3,cZm)]
theorem aFK:∀x∈as3,DX x.1 x.2:=cC Tryz.func117 rfl (by kernel_rfl)<|cC Tryz.func52 rfl (by kernel_rfl)<|cC Tryz.func65 rfl (by kernel_rfl)<|cC Tryz.func67 rfl (by kernel_rfl)<|cC Tryz.func23 rfl (by kernel_rfl)<|cC Tryz.func64 rfl (by kernel_rfl)<|cC Tryz.func66 rfl (by kernel_rfl)<|cC Tryz.func41 rfl (by kernel_rfl)<|cC Tryz.func63 rfl (by kernel_rfl)<|cC Tryz.func62 rfl (by kernel_rfl)<|cC Tryz.func22 rfl (by kernel_rfl)<|cC Tryz.func61 rfl (by kernel_rfl)<|cC Tryz.func55 rfl (by kernel_rfl)<|cC Tryz.func42 rfl (by kernel_rfl)<|cC Tryz.func13 rfl (by kernel_rfl)<|cC Tryz.func28 rfl (by kernel_rfl)<|cC Tryz.func75 rfl (by kernel_rfl)<|cC Tryz.func53 rfl (by kernel_rfl)<|cC Tryz.func18 rfl (by kernel_rfl)<|cC Tryz.func37 rfl (by kernel_rfl)<|cC Tryz.func60 rfl (by kernel_rfl)<|cC Tryz.func88 rfl (by kernel_rfl)<|cC Tryz.func116 rfl (by kernel_rfl)<|cC Tryz.func9 rfl (by kernel_rfl)<|cC Tryz.func76 rfl (by kernel_rfl)<|cC Tryz.func77 rfl (by kernel_rfl)<|cC Tryz.func29 rfl (by kernel_rfl)<|cC Tryz.func81 rfl (by kernel_rfl)<|cC Tryz.func82 rfl (by kernel_rfl)<|cC Tryz.func124 rfl (by kernel_rfl)<|cC Tryz.func79 rfl (by kernel_rfl)<|cC Tryz.func80 rfl (by kernel_rfl)<|cC Tryz.func78 rfl (by kernel_rfl)<|cC Tryz.func30 rfl (by kernel_rfl)<|cC Tryz.func87 rfl (by kernel_rfl)<|cC Tryz.func36 rfl (by kernel_rfl)<|cC Tryz.func84 rfl (by kernel_rfl)<|cC Tryz.func125 rfl (by kernel_rfl)<|cC Tryz.func85 rfl (by kernel_rfl)<|cC Tryz.func32 rfl (by kernel_rfl)<|cC Tryz.func86 rfl (by kernel_rfl)<|cC Tryz.func33 rfl (by kernel_rfl)<|cC Tryz.func35 rfl (by kernel_rfl)<|cC Tryz.func31 rfl (by kernel_rfl)<|cC Tryz.func34 rfl (by kernel_rfl)<|cC Tryz.func11 rfl (by kernel_rfl)<|cC Tryz.func8 rfl (by kernel_rfl)<|cC Tryz.func5 rfl (by kernel_rfl)<|cC Tryz.func39 rfl (by kernel_rfl)<|cC Tryz.func68 rfl (by kernel_rfl)<|cC Tryz.func69 rfl (by kernel_rfl)<|cC Tryz.func24 rfl (by kernel_rfl)<|cC Tryz.func6 rfl (by kernel_rfl)<|cC Tryz.func25 rfl (by kernel_rfl)<|cC Tryz.func7 rfl (by kernel_rfl)<|cC Tryz.func3 rfl (by kernel_rfl)<|asZ
def UK:List (Nat×yE):=[(16,eM Gx),(26,eM Dp),(45,eM KZ),(47,eM K0),(48,eM K1),(46,eM K2),(59,eM K3),(83,eM K4),(27,eM K5),(241,eM RT),(109,eM RU),(21,eM K6),(4,Fu)]
theorem aFL:∀x∈UK,gY iG Tryz.prog h2 x.1 x.2:=jc r7.abu<|jc r7.abv<|jc r7.abw<|jc r7.abx<|jc r7.aby<|jc r7.abz<|jc r7.abA<|jc r7.abB<|jc r7.abC<|jc r7.abD<|jc r7.abE<|jc r7.abF<|jc aFz<|as0
def DY:aY:=⟨λf=>xk f as3,λf=>xk f UK⟩
theorem aFM:Ob DY where
 abH:=rfl
 RV:=rfl
 abI:=rfl
 abJ:=rfl
 abK:=rfl
 abL:=rfl
 abM:=rfl
 abN:=rfl
 abO:=rfl
 aCc:=rfl
 aCd:=rfl
 abP:=rfl
theorem aFN:hC DY where
 toOb:=aFM
 pt:=⟨rfl,rfl⟩
 kJ:=⟨rfl,rfl⟩
 vR:=⟨rfl,rfl⟩
 vS:=⟨rfl,rfl⟩
 pv:=⟨rfl,rfl⟩
 vT:=⟨rfl,rfl⟩
 tW:=⟨rfl,rfl⟩
 qt:=⟨rfl,rfl⟩
 tX:=⟨rfl,rfl⟩
 tY:=⟨rfl,rfl⟩
 tZ:=⟨rfl,rfl⟩
 sw:=⟨rfl,rfl⟩
 B9:=⟨rfl,rfl⟩
 t':=⟨rfl,rfl⟩
 ua:=⟨rfl,rfl⟩
 vU:=⟨rfl,rfl⟩
 sx:=⟨rfl,rfl⟩
 vV:=⟨rfl,rfl⟩
 ub:=⟨rfl,rfl⟩
 vW:=⟨rfl,rfl⟩
 sy:=⟨rfl,rfl⟩
 uc:=⟨rfl,rfl⟩
 vX:=⟨rfl,rfl⟩
theorem aFO:hj DY where
 tohC:=aFN
 s7:=⟨rfl,rfl⟩
 pK:=⟨rfl,rfl⟩
 wV:=⟨rfl,rfl⟩
 wW:=⟨rfl,rfl⟩
 uY:=⟨rfl,rfl⟩
 uZ:=⟨rfl,rfl⟩
 u1:=⟨rfl,rfl⟩
 s8:=⟨rfl,rfl⟩
 wX:=⟨rfl,rfl⟩
 wY:=⟨rfl,rfl⟩
 wZ:=⟨rfl,rfl⟩
 u2:=⟨rfl,rfl⟩
 u3:=⟨rfl,rfl⟩
 w1:=⟨rfl,rfl⟩
 u4:=⟨rfl,rfl⟩
 w2:=⟨rfl,rfl⟩
 w3:=⟨rfl,rfl⟩
 u5:=⟨rfl,rfl⟩
 u6:=⟨rfl,rfl⟩
 u7:=⟨rfl,rfl⟩
 w4:=⟨rfl,rfl⟩
 w5:=⟨rfl,rfl⟩
 w6:=⟨rfl,rfl⟩
theorem bQg:bYF DY where
 tohj:=aFO
 begun:=rfl
 ll:=⟨rfl,rfl⟩
 wk:=⟨rfl,rfl⟩
theorem cWM:cZD DY where
 tobYF:=bQg
 cZh:=⟨rfl,rfl⟩
 cZi:=⟨rfl,rfl⟩
 cZj:=⟨rfl,rfl⟩
 cZc:=⟨rfl,rfl⟩
theorem cWN:cZu DY where
 tocZD:=cWM
 cZe:=⟨rfl,rfl⟩
 cZf:=⟨rfl,rfl⟩
 cZd:=⟨rfl,rfl⟩
theorem cWO:cYU DY where
 tocZu:=cWN
 cZm:=⟨rfl,rfl⟩
theorem aFP(m d:Nat):fT iG Tryz.prog h2 (DY.K m d):=BZ (Em Dam.Tab.mixed) (λ_ _ h=>Hq aFK h) (λ_ db=>N7 db (ov:=λf=>xk f UK) λ_ _ h=>Hq aFL h) d
end Go.Dam.C
