/- The bodies are the program. -/
import Derived.Test.YtcdpdaildggfiaaGreatDoorLawD
import Derived.Test.YtcdpdaildggfiaaGreatDoorOvrTwo
import Derived.Test.YtcdpdaildggfiaaGreatDoorTabOk
namespace Go.Dam.C
open Go Go.Dam Go.Proofs Go.RowKit Go.Dam.Tab
set_option maxRecDepth 1000000
abbrev rj:=tl Tryz.prog eR
def n0{α:Type}(f:Nat):List (Nat×α)->Option α
 | []=>none
 | x::l=>bif Nat.beq f x.1 then some x.2 else n0 f l
theorem ug{α:Type}{Q:Nat->α->Prop}{f:Nat}{F:α}:∀{l:List (Nat×α)},(∀x∈l,Q x.1 x.2)->n0 f l=some F->Q f F
 | [],_,h=>by cases h
 | x::l,a,h=>by
   rw[n0,cC]at h;by_cases b:f=x.1
   ·subst b;simp only[decide_true,cond_true,ax]at h;exact h▸a x (List.mem_cons_self)
   ·simp only[b,decide_false,cond_false]at h;exact ug (λy b=>a y (List.mem_cons_of_mem _ b)) h
theorem G4{α:Type}(Q:Nat->α->Prop){k:Nat}{F:α}{l:List (Nat×α)}(h:Q k F)(t:∀x∈l,Q x.1 x.2):∀x∈(k,F)::l,Q x.1 x.2:=λx a=>by
 rcases hk.1 a with rfl | a
 ·exact h
 ·exact t x a
theorem JC:∀x∈([]:List (Nat×aZ)),rj x.1 x.2:=λ_ h=>by cases h
theorem JT{O:b0}:∀x∈([]:List (Nat×o1)),eh O Tryz.prog eR x.1 x.2:=λ_ h=>by cases h
theorem fz{O:b0}{k:Nat}{F:o1}{l:List (Nat×o1)}(h:eh O Tryz.prog eR k F)(t:∀x∈l,eh O Tryz.prog eR x.1 x.2):∀x∈(k,F)::l,eh O Tryz.prog eR x.1 x.2:=G4 (eh O Tryz.prog eR) h t
theorem bt{k:Nat}{F:aZ}{fn:Func}{l:List (Nat×aZ)}(h:Tryz.prog.funcs[k]? = some fn)(a:ext k=false)(b:lv Tryz.prog eR fn=F)(t:∀x∈l,rj x.1 x.2):∀x∈(k,F)::l,rj x.1 x.2:=G4 rj (by rw[<-b];exact q h a) t
def Lr:List (Nat×aZ):=[(65,ft),(99,dp),(125,fu),(120,cN),(79,iZ),(126,kQ),(127,kS),(81,hM),(124,n7),(235,j5),(196,kT),(199,kU),(201,j6),(121,mL),(200,oa),(134,j4),(197,mK),(198,n'),(133,n9),(73,mJ),(116,lM),(191,lu),(315,nI),(66,nH),(77,jd),(72,hh),(98,mV),(22,fW),(78,jB),(27,hy),(69,hQ),(80,mW),(42,gq),(82,ij),(44,ik),(43,fV),(64,jc),(36,gJ),(41,dY),(236,mU),(117,lT),(115,l9),(114,l'),(177,l5),(176,l6),(247,l7),(248,oC),(321,nn)]
theorem Tf:∀x∈Lr,rj x.1 x.2:=bt Tryz.func65 rfl (by kernel_rfl)<|bt Tryz.func99 rfl (by kernel_rfl)<|bt Tryz.func125 rfl (by kernel_rfl)<|bt Tryz.func120 rfl (by kernel_rfl)<|bt Tryz.func79 rfl (by kernel_rfl)<|bt Tryz.func126 rfl (by kernel_rfl)<|bt Tryz.func127 rfl (by kernel_rfl)<|bt Tryz.func81 rfl (by kernel_rfl)<|bt Tryz.func124 rfl (by kernel_rfl)<|bt Tryz.func235 rfl (by kernel_rfl)<|bt Tryz.func196 rfl (by kernel_rfl)<|bt Tryz.func199 rfl (by kernel_rfl)<|bt Tryz.func201 rfl (by kernel_rfl)<|bt Tryz.func121 rfl (by kernel_rfl)<|bt Tryz.func200 rfl (by kernel_rfl)<|bt Tryz.func134 rfl (by kernel_rfl)<|bt Tryz.func197 rfl (by kernel_rfl)<|bt Tryz.func198 rfl (by kernel_rfl)<|bt Tryz.func133 rfl (by kernel_rfl)<|bt Tryz.func73 rfl (by kernel_rfl)<|bt Tryz.func116 rfl (by kernel_rfl)<|bt Tryz.func191 rfl (by kernel_rfl)<|bt Tryz.func315 rfl (by kernel_rfl)<|bt Tryz.func66 rfl (by kernel_rfl)<|bt Tryz.func77 rfl (by kernel_rfl)<|bt Tryz.func72 rfl (by kernel_rfl)<|bt Tryz.func98 rfl (by kernel_rfl)<|bt Tryz.func22 rfl (by kernel_rfl)<|bt Tryz.func78 rfl (by kernel_rfl)<|bt Tryz.func27 rfl (by kernel_rfl)<|bt Tryz.func69 rfl (by kernel_rfl)<|bt Tryz.func80 rfl (by kernel_rfl)<|bt Tryz.func42 rfl (by kernel_rfl)<|bt Tryz.func82 rfl (by kernel_rfl)<|bt Tryz.func44 rfl (by kernel_rfl)<|bt Tryz.func43 rfl (by kernel_rfl)<|bt Tryz.func64 rfl (by kernel_rfl)<|bt Tryz.func36 rfl (by kernel_rfl)<|bt Tryz.func41 rfl (by kernel_rfl)<|bt Tryz.func236 rfl (by kernel_rfl)<|bt Tryz.func117 rfl (by kernel_rfl)<|bt Tryz.func115 rfl (by kernel_rfl)<|bt Tryz.func114 rfl (by kernel_rfl)<|bt Tryz.func177 rfl (by kernel_rfl)<|bt Tryz.func176 rfl (by kernel_rfl)<|bt Tryz.func247 rfl (by kernel_rfl)<|bt Tryz.func248 rfl (by kernel_rfl)<|bt Tryz.func321 rfl (by kernel_rfl)<|JC
def B2:List (Nat×o1):=[(361,C.qi),(122,rT),(123,rU),(178,uj),(179,ui)]
theorem RN:∀x∈B2,eh hZ Tryz.prog eR x.1 x.2:=fz SV<|fz SU<|fz SX<|fz SY<|fz SW<|JT
def z7:ar:=⟨λf=>n0 f Lr,λf=>n0 f B2⟩
theorem Tw:c4 z7 where
 ft:=⟨rfl,rfl⟩
 dp:=⟨rfl,rfl⟩
 fu:=⟨rfl,rfl⟩
 cN:=⟨rfl,rfl⟩
 iZ:=⟨rfl,rfl⟩
 kQ:=⟨rfl,rfl⟩
 kS:=⟨rfl,rfl⟩
 hM:=⟨rfl,rfl⟩
 n7:=⟨rfl,rfl⟩
 j5:=⟨rfl,rfl⟩
 kT:=⟨rfl,rfl⟩
 kU:=⟨rfl,rfl⟩
 j6:=⟨rfl,rfl⟩
 mL:=⟨rfl,rfl⟩
 oa:=⟨rfl,rfl⟩
 j4:=⟨rfl,rfl⟩
 mK:=⟨rfl,rfl⟩
 n':=⟨rfl,rfl⟩
 n9:=⟨rfl,rfl⟩
 mJ:=⟨rfl,rfl⟩
 lM:=⟨rfl,rfl⟩
 lu:=⟨rfl,rfl⟩
 nI:=⟨rfl,rfl⟩
 nH:=⟨rfl,rfl⟩
 jd:=⟨rfl,rfl⟩
 hh:=⟨rfl,rfl⟩
 mV:=⟨rfl,rfl⟩
 fW:=⟨rfl,rfl⟩
 jB:=⟨rfl,rfl⟩
 hy:=⟨rfl,rfl⟩
 hQ:=⟨rfl,rfl⟩
 mW:=⟨rfl,rfl⟩
 gq:=⟨rfl,rfl⟩
 ij:=⟨rfl,rfl⟩
 ik:=⟨rfl,rfl⟩
 fV:=⟨rfl,rfl⟩
 jc:=⟨rfl,rfl⟩
 gJ:=⟨rfl,rfl⟩
 dY:=⟨rfl,rfl⟩
 mU:=⟨rfl,rfl⟩
 lT:=⟨rfl,rfl⟩
theorem Tv:fT z7 where
 toc4:=Tw
 idx:=rfl
 l9:=⟨rfl,rfl⟩
 l':=⟨rfl,rfl⟩
 l5:=⟨rfl,rfl⟩
 l6:=⟨rfl,rfl⟩
 l7:=⟨rfl,rfl⟩
 oC:=⟨rfl,rfl⟩
 nn:=⟨rfl,rfl⟩
 fmt:=rfl
 rep:=rfl
 trim:=rfl
 parse:=rfl
theorem NO(m d:Nat):dK hZ Tryz.prog eR (z7.K m d):=sP (ue Dam.Tab.mixed) (λ_ _ h=>ug Tf h) (λ_ a=>B4 a (eS:=λf=>n0 f B2) λ_ _ h=>ug RN h) d
theorem JN(g:Nat)(h:eR g=true):g=1:=by
 simp only[eR,cC,df]at h;exact h
theorem kJ:FN Tryz.prog eR:=Oz rfl JN NO Tv
def Ls:List (Nat×aZ):=[(75,jy),(37,hf),(31,og),(34,oh),(8,i'),(30,oe),(33,mP),(35,ke),(40,py),(39,px),(9,pw),(38,qD),(47,mS),(19,mQ),(11,qE),(46,qF),(45,qG),(10,pv),(29,oA),(32,l3),(74,nm),(76,oB),(83,jK),(84,oS),(48,oP),(88,nx),(89,ny),(128,ns),(86,mh),(87,oN),(85,oT),(49,oM),(93,nt),(55,nA),(90,oL),(129,nB),(91,oO),(51,oK),(92,nC),(52,nz),(54,nu),(50,oR),(53,oQ),(12,nr),(28,gI),(5,mG),(57,pI),(95,pJ),(96,nk),(59,jS),(14,nN),(60,mC),(15,nL),(192,L'),(132,Uu),(130,F6),(193,Tu),(267,Ob),(194,Tt),(131,Tz),(94,Vv),(58,Vw),(13,SA),(56,SB),(195,Dh),(97,nQ),(61,nR),(17,ng),(16,mA),(6,km),(7,Bs),(3,Vz)]
theorem Tg:∀x∈Ls,rj x.1 x.2:=bt Tryz.func75 rfl (by kernel_rfl)<|bt Tryz.func37 rfl (by kernel_rfl)<|bt Tryz.func31 rfl (by kernel_rfl)<|bt Tryz.func34 rfl (by kernel_rfl)<|bt Tryz.func8 rfl (by kernel_rfl)<|bt Tryz.func30 rfl (by kernel_rfl)<|bt Tryz.func33 rfl (by kernel_rfl)<|bt Tryz.func35 rfl (by kernel_rfl)<|bt Tryz.func40 rfl (by kernel_rfl)<|bt Tryz.func39 rfl (by kernel_rfl)<|bt Tryz.func9 rfl (by kernel_rfl)<|bt Tryz.func38 rfl (by kernel_rfl)<|bt Tryz.func47 rfl (by kernel_rfl)<|bt Tryz.func19 rfl (by kernel_rfl)<|bt Tryz.func11 rfl (by kernel_rfl)<|bt Tryz.func46 rfl (by kernel_rfl)<|bt Tryz.func45 rfl (by kernel_rfl)<|bt Tryz.func10 rfl (by kernel_rfl)<|bt Tryz.func29 rfl (by kernel_rfl)<|bt Tryz.func32 rfl (by kernel_rfl)<|bt Tryz.func74 rfl (by kernel_rfl)<|bt Tryz.func76 rfl (by kernel_rfl)<|bt Tryz.func83 rfl (by kernel_rfl)<|bt Tryz.func84 rfl (by kernel_rfl)<|bt Tryz.func48 rfl (by kernel_rfl)<|bt Tryz.func88 rfl (by kernel_rfl)<|bt Tryz.func89 rfl (by kernel_rfl)<|bt Tryz.func128 rfl (by kernel_rfl)<|bt Tryz.func86 rfl (by kernel_rfl)<|bt Tryz.func87 rfl (by kernel_rfl)<|bt Tryz.func85 rfl (by kernel_rfl)<|bt Tryz.func49 rfl (by kernel_rfl)<|bt Tryz.func93 rfl (by kernel_rfl)<|bt Tryz.func55 rfl (by kernel_rfl)<|bt Tryz.func90 rfl (by kernel_rfl)<|bt Tryz.func129 rfl (by kernel_rfl)<|bt Tryz.func91 rfl (by kernel_rfl)<|bt Tryz.func51 rfl (by kernel_rfl)<|bt Tryz.func92 rfl (by kernel_rfl)<|bt Tryz.func52 rfl (by kernel_rfl)<|bt Tryz.func54 rfl (by kernel_rfl)<|bt Tryz.func50 rfl (by kernel_rfl)<|bt Tryz.func53 rfl (by kernel_rfl)<|bt Tryz.func12 rfl (by kernel_rfl)<|bt Tryz.func28 rfl (by kernel_rfl)<|bt Tryz.func5 rfl (by kernel_rfl)<|bt Tryz.func57 rfl (by kernel_rfl)<|bt Tryz.func95 rfl (by kernel_rfl)<|bt Tryz.func96 rfl (by kernel_rfl)<|bt Tryz.func59 rfl (by kernel_rfl)<|bt Tryz.func14 rfl (by kernel_rfl)<|bt Tryz.func60 rfl (by kernel_rfl)<|bt Tryz.func15 rfl (by kernel_rfl)<|bt Tryz.func192 rfl (by kernel_rfl)<|bt Tryz.func132 rfl (by kernel_rfl)<|bt Tryz.func130 rfl (by kernel_rfl)<|bt Tryz.func193 rfl (by kernel_rfl)<|bt Tryz.func267 rfl (by kernel_rfl)<|bt Tryz.func194 rfl (by kernel_rfl)<|bt Tryz.func131 rfl (by kernel_rfl)<|bt Tryz.func94 rfl (by kernel_rfl)<|bt Tryz.func58 rfl (by kernel_rfl)<|bt Tryz.func13 rfl (by kernel_rfl)<|bt Tryz.func56 rfl (by kernel_rfl)<|bt Tryz.func195 rfl (by kernel_rfl)<|bt Tryz.func97 rfl (by kernel_rfl)<|bt Tryz.func61 rfl (by kernel_rfl)<|bt Tryz.func17 rfl (by kernel_rfl)<|bt Tryz.func16 rfl (by kernel_rfl)<|bt Tryz.func6 rfl (by kernel_rfl)<|bt Tryz.func7 rfl (by kernel_rfl)<|bt Tryz.func3 rfl (by kernel_rfl)<|JC
def B3:List (Nat×o1):=[(22,cL vb),(69,cL sL),(42,cL x'),(44,cL yf),(43,cL yc),(64,cL yb),(36,cL ya),(82,cL yd),(41,cL ye),(236,cL CJ),(117,cL CK),(27,cL yg),(4,uh)]
theorem RO:∀x∈B3,eh fh Tryz.prog eR x.1 x.2:=fz kJ.KW<|fz kJ.KT<|fz kJ.KP<|fz kJ.KY<|fz kJ.KU<|fz kJ.KR<|fz kJ.KQ<|fz kJ.KV<|fz kJ.KX<|fz kJ.KS<|fz kJ.K0<|fz kJ.KZ<|fz SS<|JT
def me:ar:=⟨λf=>n0 f Ls,λf=>n0 f B3⟩
theorem Tx:zg me where
 Ju:=rfl
 BS:=rfl
 Jp:=rfl
 Jw:=rfl
 Js:=rfl
 Jr:=rfl
 Jq:=rfl
 Jt:=rfl
 Jv:=rfl
 QO:=rfl
 QP:=rfl
 Jx:=rfl
theorem Ty:iO me where
 tozg:=Tx
 jy:=⟨rfl,rfl⟩
 hf:=⟨rfl,rfl⟩
 og:=⟨rfl,rfl⟩
 oh:=⟨rfl,rfl⟩
 i':=⟨rfl,rfl⟩
 oe:=⟨rfl,rfl⟩
 mP:=⟨rfl,rfl⟩
 ke:=⟨rfl,rfl⟩
 py:=⟨rfl,rfl⟩
 px:=⟨rfl,rfl⟩
 pw:=⟨rfl,rfl⟩
 qD:=⟨rfl,rfl⟩
 mS:=⟨rfl,rfl⟩
 mQ:=⟨rfl,rfl⟩
 qE:=⟨rfl,rfl⟩
 qF:=⟨rfl,rfl⟩
 qG:=⟨rfl,rfl⟩
 pv:=⟨rfl,rfl⟩
 oA:=⟨rfl,rfl⟩
 l3:=⟨rfl,rfl⟩
 nm:=⟨rfl,rfl⟩
 oB:=⟨rfl,rfl⟩
theorem TA:ep me where
 toiO:=Ty
 jK:=⟨rfl,rfl⟩
 oS:=⟨rfl,rfl⟩
 oP:=⟨rfl,rfl⟩
 nx:=⟨rfl,rfl⟩
 ny:=⟨rfl,rfl⟩
 ns:=⟨rfl,rfl⟩
 mh:=⟨rfl,rfl⟩
 oN:=⟨rfl,rfl⟩
 oT:=⟨rfl,rfl⟩
 oM:=⟨rfl,rfl⟩
 nt:=⟨rfl,rfl⟩
 nA:=⟨rfl,rfl⟩
 oL:=⟨rfl,rfl⟩
 nB:=⟨rfl,rfl⟩
 oO:=⟨rfl,rfl⟩
 oK:=⟨rfl,rfl⟩
 nC:=⟨rfl,rfl⟩
 nz:=⟨rfl,rfl⟩
 nu:=⟨rfl,rfl⟩
 oR:=⟨rfl,rfl⟩
 oQ:=⟨rfl,rfl⟩
 nr:=⟨rfl,rfl⟩
theorem Tq:oU me where
 toep:=TA
 begun:=rfl
 gI:=⟨rfl,rfl⟩
 mG:=⟨rfl,rfl⟩
theorem Tr:vR me where
 tooU:=Tq
 pI:=⟨rfl,rfl⟩
 pJ:=⟨rfl,rfl⟩
 nk:=⟨rfl,rfl⟩
 jS:=⟨rfl,rfl⟩
theorem Ts:tg me where
 tovR:=Tr
 nN:=⟨rfl,rfl⟩
 mC:=⟨rfl,rfl⟩
 nL:=⟨rfl,rfl⟩
theorem ZW:Bw me where
 totg:=Ts
 L':=⟨rfl,rfl⟩
 Uu:=⟨rfl,rfl⟩
 F6:=⟨rfl,rfl⟩
 Tu:=⟨rfl,rfl⟩
 Ob:=⟨rfl,rfl⟩
 Tt:=⟨rfl,rfl⟩
 Tz:=⟨rfl,rfl⟩
 Vv:=⟨rfl,rfl⟩
 Vw:=⟨rfl,rfl⟩
 SA:=⟨rfl,rfl⟩
 SB:=⟨rfl,rfl⟩
 Dh:=⟨rfl,rfl⟩
theorem ZV:VO me where
 toBw:=ZW
 nQ:=⟨rfl,rfl⟩
 nR:=⟨rfl,rfl⟩
 ng:=⟨rfl,rfl⟩
 mA:=⟨rfl,rfl⟩
 km:=⟨rfl,rfl⟩
 Bs:=⟨rfl,rfl⟩
 Vz:=⟨rfl,rfl⟩
theorem TL(m d:Nat):dK fh Tryz.prog eR (me.K m d):=sP (ue Dam.Tab.mixed) (λ_ _ h=>ug Tg h) (λ_ a=>B4 a (eS:=λf=>n0 f B3) λ_ _ h=>ug RO h) d
end Go.Dam.C
