/- The bodies are the program. -/
import Derived.Test.YtbholmodckdigaaGreatDoorLawD
import Derived.Test.YtbholmodckdigaaGreatDoorOvrTwo
import Derived.Test.YtbholmodckdigaaGreatDoorTabOk
namespace Go.Dam.C
open Go Go.Dam Go.Proofs Go.RowKit Go.Dam.Tab
set_option maxRecDepth 1000000
abbrev rj:=tl Tryz.prog eR
def n0{α:Type}(f:Nat):List (Nat×α)->Option α
 | []=>none
 | x::l=>bif Nat.beq f x.1 then some x.2 else n0 f l
theorem ug{α:Type}{Q:Nat->α->Prop}{f:Nat}{F:α}:∀{l:List (Nat×α)},(∀x∈l,Q x.1 x.2)->n0 f l=some F->Q f F
 | [],_,h=>by cases h
 | x::l,a,h=>by
   rw[n0,cC]at h;by_cases b:f=x.1
   ·subst b;simp only[decide_true,cond_true,ax]at h;exact h▸a x (List.mem_cons_self)
   ·simp only[b,decide_false,cond_false]at h;exact ug (λy b=>a y (List.mem_cons_of_mem _ b)) h
theorem G4{α:Type}(Q:Nat->α->Prop){k:Nat}{F:α}{l:List (Nat×α)}(h:Q k F)(t:∀x∈l,Q x.1 x.2):∀x∈(k,F)::l,Q x.1 x.2:=λx a=>by
 rcases hk.1 a with rfl | a
 ·exact h
 ·exact t x a
theorem JC:∀x∈([]:List (Nat×aZ)),rj x.1 x.2:=λ_ h=>by cases h
theorem JT{O:b0}:∀x∈([]:List (Nat×o1)),eh O Tryz.prog eR x.1 x.2:=λ_ h=>by cases h
theorem fz{O:b0}{k:Nat}{F:o1}{l:List (Nat×o1)}(h:eh O Tryz.prog eR k F)(t:∀x∈l,eh O Tryz.prog eR x.1 x.2):∀x∈(k,F)::l,eh O Tryz.prog eR x.1 x.2:=G4 (eh O Tryz.prog eR) h t
theorem bt{k:Nat}{F:aZ}{fn:Func}{l:List (Nat×aZ)}(h:Tryz.prog.funcs[k]? = some fn)(a:ext k=false)(b:lv Tryz.prog eR fn=F)(t:∀x∈l,rj x.1 x.2):∀x∈(k,F)::l,rj x.1 x.2:=G4 rj (by rw[<-b];exact q h a) t
def Lr:List (Nat×aZ):=[(54,ft),(97,dp),(131,fu),(119,cN),(93,iZ),(132,kQ),(133,kS),(95,hM),(130,n7),(236,j5),(197,kT),(200,kU),(202,j6),(120,mL),(201,oa),(135,j4),(198,mK),(199,n'),(134,n9),(65,mJ),(114,lM),(196,lu),(316,nI),(55,nH),(91,jd),(64,hh),(96,mV),(20,fW),(92,jB),(26,hy),(60,hQ),(94,mW),(50,gq),(84,ij),(52,ik),(53,fV),(51,jc),(66,gJ),(49,dY),(237,mU),(116,lT),(113,l9),(112,l'),(178,l5),(177,l6),(248,l7),(249,oC),(322,nn),(12,gI)]
theorem Tf:∀x∈Lr,rj x.1 x.2:=bt Tryz.func54 rfl (by kernel_rfl)<|bt Tryz.func97 rfl (by kernel_rfl)<|bt Tryz.func131 rfl (by kernel_rfl)<|bt Tryz.func119 rfl (by kernel_rfl)<|bt Tryz.func93 rfl (by kernel_rfl)<|bt Tryz.func132 rfl (by kernel_rfl)<|bt Tryz.func133 rfl (by kernel_rfl)<|bt Tryz.func95 rfl (by kernel_rfl)<|bt Tryz.func130 rfl (by kernel_rfl)<|bt Tryz.func236 rfl (by kernel_rfl)<|bt Tryz.func197 rfl (by kernel_rfl)<|bt Tryz.func200 rfl (by kernel_rfl)<|bt Tryz.func202 rfl (by kernel_rfl)<|bt Tryz.func120 rfl (by kernel_rfl)<|bt Tryz.func201 rfl (by kernel_rfl)<|bt Tryz.func135 rfl (by kernel_rfl)<|bt Tryz.func198 rfl (by kernel_rfl)<|bt Tryz.func199 rfl (by kernel_rfl)<|bt Tryz.func134 rfl (by kernel_rfl)<|bt Tryz.func65 rfl (by kernel_rfl)<|bt Tryz.func114 rfl (by kernel_rfl)<|bt Tryz.func196 rfl (by kernel_rfl)<|bt Tryz.func316 rfl (by kernel_rfl)<|bt Tryz.func55 rfl (by kernel_rfl)<|bt Tryz.func91 rfl (by kernel_rfl)<|bt Tryz.func64 rfl (by kernel_rfl)<|bt Tryz.func96 rfl (by kernel_rfl)<|bt Tryz.func20 rfl (by kernel_rfl)<|bt Tryz.func92 rfl (by kernel_rfl)<|bt Tryz.func26 rfl (by kernel_rfl)<|bt Tryz.func60 rfl (by kernel_rfl)<|bt Tryz.func94 rfl (by kernel_rfl)<|bt Tryz.func50 rfl (by kernel_rfl)<|bt Tryz.func84 rfl (by kernel_rfl)<|bt Tryz.func52 rfl (by kernel_rfl)<|bt Tryz.func53 rfl (by kernel_rfl)<|bt Tryz.func51 rfl (by kernel_rfl)<|bt Tryz.func66 rfl (by kernel_rfl)<|bt Tryz.func49 rfl (by kernel_rfl)<|bt Tryz.func237 rfl (by kernel_rfl)<|bt Tryz.func116 rfl (by kernel_rfl)<|bt Tryz.func113 rfl (by kernel_rfl)<|bt Tryz.func112 rfl (by kernel_rfl)<|bt Tryz.func178 rfl (by kernel_rfl)<|bt Tryz.func177 rfl (by kernel_rfl)<|bt Tryz.func248 rfl (by kernel_rfl)<|bt Tryz.func249 rfl (by kernel_rfl)<|bt Tryz.func322 rfl (by kernel_rfl)<|bt Tryz.func12 rfl (by kernel_rfl)<|JC
def B2:List (Nat×o1):=[(362,C.qi),(121,rT),(122,rU),(179,uj),(180,ui)]
theorem RN:∀x∈B2,eh hZ Tryz.prog eR x.1 x.2:=fz SV<|fz SU<|fz SX<|fz SY<|fz SW<|JT
def z7:ar:=⟨λf=>n0 f Lr,λf=>n0 f B2⟩
theorem Tw:c4 z7 where
 ft:=⟨rfl,rfl⟩
 dp:=⟨rfl,rfl⟩
 fu:=⟨rfl,rfl⟩
 cN:=⟨rfl,rfl⟩
 iZ:=⟨rfl,rfl⟩
 kQ:=⟨rfl,rfl⟩
 kS:=⟨rfl,rfl⟩
 hM:=⟨rfl,rfl⟩
 n7:=⟨rfl,rfl⟩
 j5:=⟨rfl,rfl⟩
 kT:=⟨rfl,rfl⟩
 kU:=⟨rfl,rfl⟩
 j6:=⟨rfl,rfl⟩
 mL:=⟨rfl,rfl⟩
 oa:=⟨rfl,rfl⟩
 j4:=⟨rfl,rfl⟩
 mK:=⟨rfl,rfl⟩
 n':=⟨rfl,rfl⟩
 n9:=⟨rfl,rfl⟩
 mJ:=⟨rfl,rfl⟩
 lM:=⟨rfl,rfl⟩
 lu:=⟨rfl,rfl⟩
 nI:=⟨rfl,rfl⟩
 nH:=⟨rfl,rfl⟩
 jd:=⟨rfl,rfl⟩
 hh:=⟨rfl,rfl⟩
 mV:=⟨rfl,rfl⟩
 fW:=⟨rfl,rfl⟩
 jB:=⟨rfl,rfl⟩
 hy:=⟨rfl,rfl⟩
 hQ:=⟨rfl,rfl⟩
 mW:=⟨rfl,rfl⟩
 gq:=⟨rfl,rfl⟩
 ij:=⟨rfl,rfl⟩
 ik:=⟨rfl,rfl⟩
 fV:=⟨rfl,rfl⟩
 jc:=⟨rfl,rfl⟩
 gJ:=⟨rfl,rfl⟩
 dY:=⟨rfl,rfl⟩
 mU:=⟨rfl,rfl⟩
 lT:=⟨rfl,rfl⟩
theorem Tv:fT z7 where
 toc4:=Tw
 idx:=rfl
 l9:=⟨rfl,rfl⟩
 l':=⟨rfl,rfl⟩
 l5:=⟨rfl,rfl⟩
 l6:=⟨rfl,rfl⟩
 l7:=⟨rfl,rfl⟩
 oC:=⟨rfl,rfl⟩
 nn:=⟨rfl,rfl⟩
 gI:=⟨rfl,rfl⟩
 fmt:=rfl
 rep:=rfl
 trim:=rfl
 parse:=rfl
theorem NO(m d:Nat):dK hZ Tryz.prog eR (z7.K m d):=sP (ue Dam.Tab.mixed) (λ_ _ h=>ug Tf h) (λ_ a=>B4 a (eS:=λf=>n0 f B2) λ_ _ h=>ug RN h) d
theorem JN(g:Nat)(h:eR g=true):g=1:=by
 simp only[eR,cC,df]at h;exact h
theorem kJ:FN Tryz.prog eR:=Oz rfl JN NO Tv
def Ls:List (Nat×aZ):=[(124,jy),(57,hf),(72,og),(74,oh),(28,i'),(71,oe),(73,mP),(45,ke),(70,py),(69,px),(27,pw),(68,qD),(62,sl),(46,mS),(17,mQ),(61,qE),(115,qF),(58,qG),(22,pv),(41,oA),(67,l3),(89,nm),(123,oB),(24,rP),(77,jK),(78,oS),(33,oP),(82,nx),(83,ny),(125,ns),(80,mh),(81,oN),(79,oT),(34,oM),(88,nt),(40,nA),(85,oL),(126,nB),(86,oO),(36,oK),(87,nC),(37,nz),(39,nu),(35,oR),(38,oQ),(15,nr),(12,gI),(5,mG),(43,pI),(75,pJ),(30,nk),(29,jS),(6,nN),(31,mC),(11,nL),(76,nQ),(32,nR),(9,ng),(10,mA),(8,mB),(13,km),(7,nM),(3,n6)]
theorem Tg:∀x∈Ls,rj x.1 x.2:=bt Tryz.func124 rfl (by kernel_rfl)<|bt Tryz.func57 rfl (by kernel_rfl)<|bt Tryz.func72 rfl (by kernel_rfl)<|bt Tryz.func74 rfl (by kernel_rfl)<|bt Tryz.func28 rfl (by kernel_rfl)<|bt Tryz.func71 rfl (by kernel_rfl)<|bt Tryz.func73 rfl (by kernel_rfl)<|bt Tryz.func45 rfl (by kernel_rfl)<|bt Tryz.func70 rfl (by kernel_rfl)<|bt Tryz.func69 rfl (by kernel_rfl)<|bt Tryz.func27 rfl (by kernel_rfl)<|bt Tryz.func68 rfl (by kernel_rfl)<|bt Tryz.func62 rfl (by kernel_rfl)<|bt Tryz.func46 rfl (by kernel_rfl)<|bt Tryz.func17 rfl (by kernel_rfl)<|bt Tryz.func61 rfl (by kernel_rfl)<|bt Tryz.func115 rfl (by kernel_rfl)<|bt Tryz.func58 rfl (by kernel_rfl)<|bt Tryz.func22 rfl (by kernel_rfl)<|bt Tryz.func41 rfl (by kernel_rfl)<|bt Tryz.func67 rfl (by kernel_rfl)<|bt Tryz.func89 rfl (by kernel_rfl)<|bt Tryz.func123 rfl (by kernel_rfl)<|bt Tryz.func24 rfl (by kernel_rfl)<|bt Tryz.func77 rfl (by kernel_rfl)<|bt Tryz.func78 rfl (by kernel_rfl)<|bt Tryz.func33 rfl (by kernel_rfl)<|bt Tryz.func82 rfl (by kernel_rfl)<|bt Tryz.func83 rfl (by kernel_rfl)<|bt Tryz.func125 rfl (by kernel_rfl)<|bt Tryz.func80 rfl (by kernel_rfl)<|bt Tryz.func81 rfl (by kernel_rfl)<|bt Tryz.func79 rfl (by kernel_rfl)<|bt Tryz.func34 rfl (by kernel_rfl)<|bt Tryz.func88 rfl (by kernel_rfl)<|bt Tryz.func40 rfl (by kernel_rfl)<|bt Tryz.func85 rfl (by kernel_rfl)<|bt Tryz.func126 rfl (by kernel_rfl)<|bt Tryz.func86 rfl (by kernel_rfl)<|bt Tryz.func36 rfl (by kernel_rfl)<|bt Tryz.func87 rfl (by kernel_rfl)<|bt Tryz.func37 rfl (by kernel_rfl)<|bt Tryz.func39 rfl (by kernel_rfl)<|bt Tryz.func35 rfl (by kernel_rfl)<|bt Tryz.func38 rfl (by kernel_rfl)<|bt Tryz.func15 rfl (by kernel_rfl)<|bt Tryz.func12 rfl (by kernel_rfl)<|bt Tryz.func5 rfl (by kernel_rfl)<|bt Tryz.func43 rfl (by kernel_rfl)<|bt Tryz.func75 rfl (by kernel_rfl)<|bt Tryz.func30 rfl (by kernel_rfl)<|bt Tryz.func29 rfl (by kernel_rfl)<|bt Tryz.func6 rfl (by kernel_rfl)<|bt Tryz.func31 rfl (by kernel_rfl)<|bt Tryz.func11 rfl (by kernel_rfl)<|bt Tryz.func76 rfl (by kernel_rfl)<|bt Tryz.func32 rfl (by kernel_rfl)<|bt Tryz.func9 rfl (by kernel_rfl)<|bt Tryz.func10 rfl (by kernel_rfl)<|bt Tryz.func8 rfl (by kernel_rfl)<|bt Tryz.func13 rfl (by kernel_rfl)<|bt Tryz.func7 rfl (by kernel_rfl)<|bt Tryz.func3 rfl (by kernel_rfl)<|JC
def B3:List (Nat×o1):=[(20,cL vb),(60,cL sL),(50,cL x'),(52,cL yf),(53,cL yc),(51,cL yb),(66,cL ya),(84,cL yd),(49,cL ye),(237,cL CJ),(116,cL CK),(26,cL yg),(4,uh)]
theorem RO:∀x∈B3,eh fh Tryz.prog eR x.1 x.2:=fz kJ.KW<|fz kJ.KT<|fz kJ.KP<|fz kJ.KY<|fz kJ.KU<|fz kJ.KR<|fz kJ.KQ<|fz kJ.KV<|fz kJ.KX<|fz kJ.KS<|fz kJ.K0<|fz kJ.KZ<|fz SS<|JT
def me:ar:=⟨λf=>n0 f Ls,λf=>n0 f B3⟩
theorem Tx:zg me where
 Ju:=rfl
 BS:=rfl
 Jp:=rfl
 Jw:=rfl
 Js:=rfl
 Jr:=rfl
 Jq:=rfl
 Jt:=rfl
 Jv:=rfl
 QO:=rfl
 QP:=rfl
 Jx:=rfl
theorem Ty:iO me where
 tozg:=Tx
 jy:=⟨rfl,rfl⟩
 hf:=⟨rfl,rfl⟩
 og:=⟨rfl,rfl⟩
 oh:=⟨rfl,rfl⟩
 i':=⟨rfl,rfl⟩
 oe:=⟨rfl,rfl⟩
 mP:=⟨rfl,rfl⟩
 ke:=⟨rfl,rfl⟩
 py:=⟨rfl,rfl⟩
 px:=⟨rfl,rfl⟩
 pw:=⟨rfl,rfl⟩
 qD:=⟨rfl,rfl⟩
 sl:=⟨rfl,rfl⟩
 mS:=⟨rfl,rfl⟩
 mQ:=⟨rfl,rfl⟩
 qE:=⟨rfl,rfl⟩
 qF:=⟨rfl,rfl⟩
 qG:=⟨rfl,rfl⟩
 pv:=⟨rfl,rfl⟩
 oA:=⟨rfl,rfl⟩
 l3:=⟨rfl,rfl⟩
 nm:=⟨rfl,rfl⟩
 oB:=⟨rfl,rfl⟩
theorem TA:ep me where
 toiO:=Ty
 rP:=⟨rfl,rfl⟩
 jK:=⟨rfl,rfl⟩
 oS:=⟨rfl,rfl⟩
 oP:=⟨rfl,rfl⟩
 nx:=⟨rfl,rfl⟩
 ny:=⟨rfl,rfl⟩
 ns:=⟨rfl,rfl⟩
 mh:=⟨rfl,rfl⟩
 oN:=⟨rfl,rfl⟩
 oT:=⟨rfl,rfl⟩
 oM:=⟨rfl,rfl⟩
 nt:=⟨rfl,rfl⟩
 nA:=⟨rfl,rfl⟩
 oL:=⟨rfl,rfl⟩
 nB:=⟨rfl,rfl⟩
 oO:=⟨rfl,rfl⟩
 oK:=⟨rfl,rfl⟩
 nC:=⟨rfl,rfl⟩
 nz:=⟨rfl,rfl⟩
 nu:=⟨rfl,rfl⟩
 oR:=⟨rfl,rfl⟩
 oQ:=⟨rfl,rfl⟩
 nr:=⟨rfl,rfl⟩
theorem Tq:oU me where
 toep:=TA
 begun:=rfl
 gI:=⟨rfl,rfl⟩
 mG:=⟨rfl,rfl⟩
theorem Tr:vR me where
 tooU:=Tq
 pI:=⟨rfl,rfl⟩
 pJ:=⟨rfl,rfl⟩
 nk:=⟨rfl,rfl⟩
 jS:=⟨rfl,rfl⟩
theorem Ts:tg me where
 tovR:=Tr
 nN:=⟨rfl,rfl⟩
 mC:=⟨rfl,rfl⟩
 nL:=⟨rfl,rfl⟩
theorem Tz:rn me where
 totg:=Ts
 nQ:=⟨rfl,rfl⟩
 nR:=⟨rfl,rfl⟩
 ng:=⟨rfl,rfl⟩
 mA:=⟨rfl,rfl⟩
theorem Tu:zd me where
 torn:=Tz
 mB:=⟨rfl,rfl⟩
theorem Tt:q' me where
 tozd:=Tu
 km:=⟨rfl,rfl⟩
 nM:=⟨rfl,rfl⟩
 n6:=⟨rfl,rfl⟩
theorem TL(m d:Nat):dK fh Tryz.prog eR (me.K m d):=sP (ue Dam.Tab.mixed) (λ_ _ h=>ug Tg h) (λ_ a=>B4 a (eS:=λf=>n0 f B3) λ_ _ h=>ug RO h) d
end Go.Dam.C
