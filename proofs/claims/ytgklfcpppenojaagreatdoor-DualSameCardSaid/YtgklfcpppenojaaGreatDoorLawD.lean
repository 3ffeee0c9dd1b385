/- What the functions of the program compute, for every input. -/
import Derived.Test.YtgklfcpppenojaaGreatDoorLawC
import Derived.Test.YtgklfcpppenojaaGreatDoorLawB
import Derived.Test.YtgklfcpppenojaaGreatDoorDamB
import Derived.Deep.Slices
import Derived.SliceStrings
namespace Go.Dam.C
section
variable{lp:bD}{T:b8}
theorem az0{lp:bD}{T:b8}{col:Nat}(he:enters lp.aX lp.cs T=some col):gl lp.aX lp.cs T col=1∨gl lp.aX lp.cs T col=-1:=by
 obtain⟨_,gy,_⟩:=zWd he;simp only[cG,eh]at gy;unfold gl
 rcases lq gy.1 with⟨_,e⟩ | ⟨_,e⟩<;>rw[e]<;>simp
theorem j0.az1(h:iA lp)(bK:j0 lp.aX (hE lp) T){col:Nat}(af:col<lp.aj.length){way:Int}(hw:way=1∨way=-1){x:Nat}(az:x<lp.aj.length+lp.rows.length):cP kV (kU lp.aX T col way x):=by
 rcases bK.inv.bj.mE x az with⟨i,ad,rfl⟩ | ⟨k,ag,rfl⟩
 ·rw[CT bK.inv.bj af ad];exact aan (sV (bK.Kg h ad af) (by decide)) hw
 ·rw[uF bK.inv.bj af ag];split
  ·exact aam Ko hw
  ·exact Af Ko
theorem az2{P:cr}{B a k:Nat}(h:cP B (T.M a k)):cP B (mH P T a k):=by
 unfold mH;split
 ·exact Q5 h
 ·exact h
theorem aap{P:cr}(bj:fh P T){B a:Nat}(dC:1<=B)(aN:a<P.m)(au:off P T.v (T.rows a)≠0)(h:∀k,k<P.n->cP B (T.M a k))(x:Nat):cP B (jJ P T a x):=by
 by_cases e:x=T.rows a
 ·rw[e,Kn bj aN];exact aam dC (Ab au)
 ·rw[Q4 e];exact aao bj dC (λk ag=>az2 (h k ag)) x
theorem az3{P:cr}{V x:Nat}(eI:F0 P V)(w:Int):cP V (goal P x w):=by
 unfold goal;split
 ·cases e:P.up x with
  | none=>exact Af eI.v1
  | some u=>exact eI.up x u e
 ·cases e:P.lo x with
  | none=>exact Af eI.v1
  | some u=>exact eI.lo x u e
theorem az4(h:iA lp)(bK:j0 lp.aX (hE lp) T){a:Nat}(aN:a<lp.rows.length)(au:off lp.aX T.v (T.rows a)≠0):cP kV (qP lp.aX T a):=by
 have U:=azZ (az3 (x:=T.rows a) h.F4 (off lp.aX T.v (T.rows a))) (bK.F8 h (bK.inv.bj.r a aN));have aa:hc*bZf 1660+bZf 1660*hc<=bZf 1900:=by
  have e:hc*bZf 1660=bZf 1690:=by rw[show hc=bZf 30 from(bZr 30).symm];exact bXW (by decide)
  rw[gw (bZf 1660),e];have:bZf 1900=bZf 210*bZf 1690:=(bXW (by decide)).symm;rw[this];have az5:2<=bZf 210:=bH (show 2<=bZf 1 by rw[bZr];decide) (bXt (by decide));have:=hQ (bZf 1690) az5;generalize bZf 1690=p at*
  omega
 have aq:cP kV (goal lp.aX (T.rows a) (off lp.aX T.v (T.rows a))-T.v (T.rows a)):=U.mono (show _<=kV by unfold kV;exact aa);unfold qP;rw[bYp];exact aan aq (Ab au)
theorem aym(h:iA lp)(hm:lp.dP=true){c:iz}(aG:CZ lp (wC lp.aX (hE lp)) (uG lp.aX (hE lp)) c):kQ lp c=true/\c.ok:=by
 have Q6:=h.n;have Ga:=h.m
 rcases aG with⟨T,a,bK,hw,c9⟩ | ⟨T,col,bK,he,iE⟩ | ⟨T,bK,he⟩
 ·obtain⟨aN,au,_⟩:=zWd hw;have au:off lp.aX T.v (T.rows a)≠0:=by simpa using au
  have uJ:∀i,i<lp.rows.length->cP kV (jJ lp.aX T a (lp.aj.length+i)):=λi _=>aap bK.1.inv.bj Ko aN au (λk ag=>sV (bK.1.Kg h aN ag) (by decide)) _;have az:(List.range lp.aX.m).map (qQ lp.aX T a)=(List.range lp.rows.length).map λi=>dB (jJ lp.aX T a (lp.aj.length+i)):=bWa λi ad=>aah bK.1.inv.bj aN au i;rw[az];have ai:gR lp ((List.range lp.rows.length).map λi=>dB (jJ lp.aX T a (lp.aj.length+i))) false=some (qP lp.aX T a):=by
   unfold gR;rw[bm (CY hm uJ)];exact(QY hm).2 (azT hm bK.1.inv bK.2 hw c9 λi ad=>Aj ad (uJ i ad))
  refine⟨?_,⟨⟨by simp,by simp⟩,F' (by omega) uJ,⟨by simp,by simp⟩⟩⟩;unfold kQ;rw[aU (show ¬((2:Int)=1) by decide),bm rfl];simp only[ai,jj,(az4 h bK.1 aN au).rd];simp[azS au]
 ·obtain⟨d',_,_⟩:=zWd he;have kn:=az0 he;have rT:∀j,j<lp.aj.length->cP kV (T.v j):=λj aH=>sV (bK.1.F8 h (by omega)) (by decide);have ya:∀j,j<lp.aj.length->cP kV (kU lp.aX T col (gl lp.aX lp.cs T col) j):=λj aH=>bK.1.az1 h d' kn (by omega);have az:(List.range lp.aX.n).map (oX T col (gl lp.aX lp.cs T col) lp.aX.m)=(List.range lp.aj.length).map λj=>dB (kU lp.aX T col (gl lp.aX lp.cs T col) j):=bWa λj aH=>azY bK.1.inv.bj d' (by have:=bXe.1 aH;omega);rw[az];have aC:nv lp T=(List.range lp.aj.length).map λj=>dB (T.v j):=rfl;have bc:lg lp (nv lp T)=true:=by
   unfold lg;rw[aC,show lp.aj.length=lp.aj.length from rfl,CY hm rT,Bool.true_and];exact(QX hm).2 ((uE.fits hm bK.1.inv bK.2).congr λj aH=>Aj aH (rT j aH))
  have an:pw lp ((List.range lp.aj.length).map λj=>dB (kU lp.aX T col (gl lp.aX lp.cs T col) j))=true:=by
   unfold pw;rw[CY hm ya,Bool.true_and];exact(Z4 hm).2 ((azV hm bK.1.inv he iE).congr λj aH=>Aj aH (ya j aH))
  refine⟨?_,⟨aC▸F' (by omega) rT,⟨by simp,by simp⟩,F' (by omega) ya⟩⟩;unfold kQ;rw[aU (show ¬((3:Int)=1) by decide),aU (show ¬((3:Int)=2) by decide),bm rfl];simp[bc,an]
 ·have rT:∀j,j<lp.aj.length->cP kV (T.v j):=λj aH=>sV (bK.1.F8 h (by omega)) (by decide);have aC:nv lp T=(List.range lp.aj.length).map λj=>dB (T.v j):=rfl;have uJ:∀i,i<lp.rows.length->cP kV (lu lp.aX T (red lp.aX lp.cs T) (lp.aj.length+i)):=λi _=>aao bK.1.inv.bj Ko (λk ag=>sV (bK.1.azM h ag) (by decide)) _;have aB:Q7 lp T=(List.range lp.rows.length).map λi=>dB (lu lp.aX T (red lp.aX lp.cs T) (lp.aj.length+i)):=bWa λi _=>aag bK.1.inv.bj _ i;have bc:lg lp (nv lp T)=true:=by
   unfold lg;rw[aC,CY hm rT,Bool.true_and];exact(QX hm).2 ((uE.fits hm bK.1.inv bK.2).congr λj aH=>Aj aH (rT j aH))
  have aw:kN lp (nv lp T)=some (lp.nh T.v):=by
   unfold kN;rw[aC,bm (CY hm rT),aak λj aH=>Aj aH (rT j aH)]
  have ai:gR lp (Q7 lp T) true=some (lp.nh T.v):=by
   unfold gR;rw[aB,bm (CY hm uJ)];exact(QY hm).2 (azR hm bK.1.inv bK.2 he λi ad=>Aj ad (uJ i ad))
  refine⟨?_,⟨aC▸F' (by omega) rT,aB▸F' (by omega) uJ,⟨by simp,by simp⟩⟩⟩;unfold kQ;rw[bm rfl];simp[bc,aw,ai,Gb,jj]
end
section
variable{lp:bD}
theorem az6{q:Rat}{k:Nat}(h:sz q k)(ag:1<=k):(dB q).length<=20*k+2:=by
 have ck:=Gc h.1 ag;have cJ:=Gc h.2 ag;unfold dB;simp only[tr];split<;>split<;>simp<;>omega
theorem az7(h:iA lp)(i j:Nat):sz (lp.aX.A i j) 30:=by
 rcases QK (l:=(lp.row i).cM) (f:=λ_=>0) j with e | ⟨c,af,e⟩
 ·show sz (nu _ j) _;rw[nu,e];exact uh (by decide)
 ·show sz (nu _ j) _;rw[nu,e];exact jf ((F3 h i).2 c af) (by decide)
theorem Pz(h:iA lp)(hm:lp.dP=true){wc:Bool}{dz:List (List UInt8)}(bu:∀i,sz (e1 dz i) 400):(jj (gR lp dz wc)).length<1000000:=by
 have aF:=h.n;have Ga:=h.m
 cases e:gR lp dz wc with
 | none=>simp[jj]
 | some b=>
   have ai:=(Q2 hm e).ls.sum;have U:sz (bs (λi=>e1 dz i*rd (lp.row i).rhs) lp.rows.length) 5200:=by
    refine ff (Ch (t:=400+30) λi _=>la (bu i) (jf (F3 h i).1 (by decide))) ?_;exact bH (bXj (ie Ga (bR (400+30+1)))) (by decide)
   have aa:∀j,sz (gD lp wc (e1 dz) j) 5240:=λj=>by
    have aG:sz (bs (λi=>e1 dz i*lp.aX.A i j) lp.rows.length) 5200:=by
     refine ff (Ch (t:=400+30) λi _=>la (bu i) (az7 h i j)) ?_;exact bH (bXj (ie Ga (bR (400+30+1)))) (by decide)
    have aD:sz (d0 lp wc j) 30:=by
     unfold d0;split
     ·exact jf (yn h j).2.2 (by decide)
     ·exact uh (by decide)
    exact ff (Yv aD aG) (by omega)
   have aq:sz (bs (λj=>gD lp wc (e1 dz) j*rd (if gD lp wc (e1 dz) j<0 then(lp.col j).up else(lp.col j).low)) lp.aj.length) 31700:=by
    refine ff (Ch (t:=5240+30) λj _=>la (aa j) ?_) ?_
    ·split
     ·exact jf (yn h j).2.1 (by decide)
     ·exact jf (yn h j).1 (by decide)
    ·exact bH (bXj (ie aF (bR (5240+30+1)))) (by decide)
   have a8:sz b 37000:=by rw[ai];exact ff (zz U aq) (by omega)
   have:=az6 a8 (by decide);show(dB b).length<_;omega
theorem cYq(c a b:Nat)(af:1<c)(h:a<b):c^a<c^b:=Nat.pow_lt_pow_right af h
theorem az8{q:Rat}(h:cP (bZf 1446) q):sz q 400:=by
 have dC:bZf 1446<4294967296^400:=by
  have:bZf 1446<=bZf 9^161:=by rw[cYo];exact bXt (by decide)
  have aa:bZf 9^161<=4294967296^161:=bWg (by rw[bZr];decide) _;exact eD (bH this aa) (cYq 4294967296 161 400 (by decide) (by decide))
 exact⟨eD h.1 dC,eD h.2 dC⟩
theorem ayo(h:iA lp)(hm:lp.dP=true){c:iz}(aG:CZ lp (wC lp.aX (hE lp)) (uG lp.aX (hE lp)) c)(aa:c.st=2):(jj (gR lp c.d false)).length<1000000:=by
 rcases aG with⟨T,a,bK,hw,c9⟩ | ⟨T,col,bK,he,iE⟩ | ⟨T,bK,he⟩
 ·obtain⟨aN,au,_⟩:=zWd hw;have au:off lp.aX T.v (T.rows a)≠0:=by simpa using au
  have az:(List.range lp.aX.m).map (qQ lp.aX T a)=(List.range lp.rows.length).map λi=>dB (jJ lp.aX T a (lp.aj.length+i)):=bWa λi ad=>aah bK.1.inv.bj aN au i;have dC:1<=bZf 1446:=bUS 1446;have uJ:∀i,cP (bZf 1446) (jJ lp.aX T a (lp.aj.length+i)):=λi=>aap (B:=bZf 1446) bK.1.inv.bj dC aN au (λk ag=>bK.1.Kg h aN ag) _;refine Pz h hm λi=>?_;show sz (e1 ((List.range lp.aX.m).map (qQ lp.aX T a)) i) 400;rw[az];by_cases ad:i<lp.rows.length
  ·rw[Aj ad (sV (uJ i) (by decide))];exact az8 (uJ i)
  ·unfold e1;rw[ob,jq (by simp;omega)];exact jf (by simp) (by decide)
 ·cases aa
 ·cases aa
end
end Go.Dam.C
namespace Go.Dam.C
open Go Go.Dam
def Fu(_:Perm)(args:List Value)(H:ah):Option (Value×ah):=match args with
 | []=>bif qI H then some (.bool true,H) else none
 | _=>none
structure bXd(X:aY):Prop extends hj X where
 begun:X.ov F.O9=some Fu
 ll:Has X F.ll C.ll
 wk:Has X F.wk C.wk
variable{X:aY}{pm:Perm}{H H' cL H0:ah}{n:Nat}
theorem ax2(al:bXd X)(aS:Tab H):Call X pm F.O9 [] H λr H'=>H'=H/\r=.bool true:=by
 refine Call.over al.begun (v:=.bool true) (H':=H) ?_ ⟨rfl,rfl⟩;simp only[Fu,rE aS];rfl
theorem zK(al:bXd X){l:List UInt8}{n:Nat}(_cYM:n<=1000):Call X pm F.ll [aW l,.int .i64 (n:Int)] H λr H'=>H'=H/\r=aW (l.take n):=by
 refine Call.has al.ll rfl ?_;by_cases h:n<l.length
 ·simp[h,show n<=l.length by omega,]
 ·simp[h,];rw[tp (by omega)]
end Go.Dam.C
namespace Go.Dam.C
open Go Go.Dam
variable{X:aY}{pm:Perm}{H H' cL H0:ah}{n:Nat}
def np(ba:Nat):Value->Prop
 | .slice (some a) n _=>ba<=a.block/\0<n
 | _=>True
theorem zWa.put{v:Value}{m w ba b:Nat}{P sA:Nat->List Value->Prop}(h:zWa H v m w P)(bc:np ba v)(ai:b<ba)(x:cj)(aC:∀i cs,i<m->P i cs->sA i cs):zWa (H.put b x) v m w sA:=by
 obtain⟨base,cap,rfl,eU⟩:=h.ex;refine⟨base,cap,rfl,λi ad=>?_⟩;obtain⟨c,off,y,row,cs,rfl,e2,bd,b1,cK⟩:=eU i ad;have bc:ba<=c:=bc.1;exact⟨c,off,y,row,cs,rfl,by rw[cq (by omega)];exact e2,bd,b1,aC i cs ad cK⟩
def uv(H:ah)(ba:Nat)(v:Value)(l:List di):Prop:=zWa H v l.length 5 λi cs=>∃r vc,l[i]? = some r/\cs=r.cells vc/\nX H vc r.cM/\np ba vc
theorem uv.rows{ba:Nat}{v:Value}{l:List di}(h:uv H ba v l):nY H v l:=zWa.imp h (λ_ _ e=>e) λ_ _ _ ⟨r,vc,ao,e2,bd,_⟩=>⟨r,vc,ao,e2,bd⟩
theorem uv.ext{ba:Nat}{v:Value}{l:List di}(h:uv H ba v l)(e:Ext H H'):uv H' ba v l:=zWa.imp h e λ_ _ _ ⟨r,vc,ao,e2,bd,b1⟩=>⟨r,vc,ao,e2,bd.ext e,b1⟩
theorem uv.put{ba b:Nat}{v:Value}{l:List di}(h:uv H ba v l)(bc:np ba v)(ai:b<ba)(x:cj):uv (H.put b x) ba v l:=
 zWa.put h bc ai x λ_ _ _ ⟨r,vc,ao,e2,bd,b1⟩=>⟨r,vc,ao,e2,zWa.put bd b1 ai x λ_ _ _ h=>h,b1⟩
def sL(H:ah)(ba:Nat)(r:Value)(lp:bD):Prop:=∃v1 v2,r=.agg #[v1,v2]/\kI H v1 lp.aj/\uv H ba v2 lp.rows/\np ba v1/\np ba v2
theorem sL.lp{ba:Nat}{r:Value}{lp:bD}(h:sL H ba r lp):ps H r lp:=by
 obtain⟨v1,v2,rfl,U,aa,_⟩:=h;exact⟨v1,v2,rfl,U,aa.rows⟩
theorem sL.ext{ba:Nat}{r:Value}{lp:bD}(h:sL H ba r lp)(e:Ext H H'):sL H' ba r lp:=by
 obtain⟨v1,v2,rfl,U,aa,aq⟩:=h;exact⟨v1,v2,rfl,U.ext e,aa.ext e,aq⟩
theorem sL.put{ba b:Nat}{r:Value}{lp:bD}(h:sL H ba r lp)(ai:b<ba)(x:cj):sL (H.put b x) ba r lp:=by
 obtain⟨v1,v2,rfl,U,aa,aq,a8⟩:=h;exact⟨v1,v2,rfl,zWa.put U aq ai x λ_ _ _ h=>h,aa.put a8 ai x,aq,a8⟩
def eu.cut(c:eu):eu:={c with low:=c.low.take 20,up:=c.up.take 20,cost:=c.cost.take 20}
def di.cut(r:di):di:={r with cM:=(r.cM.take 8).map λc=>{c with v:=c.v.take 20},rhs:=r.rhs.take 30}
def bD.cut(lp:bD):bD:=⟨(lp.aj.take 6).map eu.cut,(lp.rows.take 6).map di.cut⟩
theorem bD.ax8(lp:bD):iA lp.cut:=by
 refine⟨by simp[bD.cut];omega,by simp[bD.cut];omega,λc af=>?_,λr an=>?_⟩
 ·obtain⟨c,_,rfl⟩:=bZT.1 af;simp only[eu.cut,bYl];omega
 ·obtain⟨r,_,rfl⟩:=bZT.1 an;simp only[di.cut,bYl,bYS];refine⟨by omega,by omega,λc af=>?_⟩;obtain⟨c,_,rfl⟩:=bZT.1 af;simp only[bYl];omega
def hO(H:ah)(v:Value)(m w:Nat)(P:Nat->List Value->Prop):Prop:=∃base cap,v=.slice base m cap/\m<=cap/\(base=none->m=0)/\∀a,base=some a->∃b off row,a=⟨b,off,none⟩/\(H.get b=some (.ro row)∨H.get b=some (.cells row (.n w)))/\off+m*w<=row.length/\∀i,i<m->∃cs,cX row (off+i*w) w=some cs/\P i cs
theorem hO.sl{v:Value}{m w:Nat}{P:Nat->List Value->Prop}(h:hO H v m w P):zWa H v m w P:=by
 obtain⟨base,cap,rfl,_,aD,U⟩:=h;refine⟨base,cap,rfl,λi ad=>?_⟩
 cases base with
 | none=>have:=aD rfl;omega
 | some a=>
   obtain⟨b,off,row,rfl,aa,_,aq⟩:=U _ rfl;obtain⟨cs,a8,cg⟩:=aq i ad
   rcases aa with aa | aa
   ·exact⟨b,off,_,row,cs,rfl,aa,rfl,a8,cg⟩
   ·exact⟨b,off,_,row,cs,rfl,aa,rfl,a8,cg⟩
theorem hO.imp{v:Value}{m w:Nat}{P sA:Nat->List Value->Prop}(h:hO H v m w P)(e:Ext H H')(aC:∀i cs,i<m->P i cs->sA i cs):hO H' v m w sA:=by
 obtain⟨base,cap,rfl,hm,aD,U⟩:=h;refine⟨base,cap,rfl,hm,aD,λa aN=>?_⟩;obtain⟨b,off,row,rfl,aa,ai,aq⟩:=U a aN;exact⟨b,off,row,rfl,aa.imp (e _ _) (e _ _),ai,λi ad=>(aq i ad).imp λcs h=>⟨h.1,aC i cs ad h.2⟩⟩
def CF(H:ah)(v:Value)(l:List di):Prop:=hO H v l.length 5 λi cs=>∃r vc,l[i]? = some r/\cs=r.cells vc/\hO H vc r.cM.length 2 λi cs=>∃c,r.cM[i]? = some c/\cs=c.cells
def x'(H:ah)(v:Value)(lp:bD):Prop:=∃v1 v2,v=.agg #[v1,v2]/\(hO H v1 lp.aj.length 5 λi cs=>∃c,lp.aj[i]? = some c/\cs=c.cells)/\CF H v2 lp.rows
theorem CF.ext{v:Value}{l:List di}(h:CF H v l)(e:Ext H H'):CF H' v l:=hO.imp h e λ_ _ _ ⟨r,vc,ao,e2,bd⟩=>⟨r,vc,ao,e2,bd.imp e λ_ _ _ h=>h⟩
theorem x'.ext{v:Value}{lp:bD}(h:x' H v lp)(e:Ext H H'):x' H' v lp:=by
 obtain⟨v1,v2,rfl,U,aa⟩:=h;exact⟨v1,v2,rfl,U.imp e λ_ _ _ h=>h,aa.ext e⟩
theorem x'.lp{v:Value}{lp:bD}(h:x' H v lp):ps H v lp:=by
 obtain⟨v1,v2,rfl,U,aa⟩:=h;exact⟨v1,v2,rfl,U.sl,zWa.imp aa.sl (λ_ _ e=>e) λ_ _ _ ⟨r,vc,ao,e2,bd⟩=>⟨r,vc,ao,e2,bd.sl⟩⟩
def YJ(X:aY):Prop:=∀(pm:Perm) (H:ah),cl pm H->∀(v:Value) (lp:bD),x' H v lp->Call X pm F.wk [v] H λr H'=>K pm H H'/\sL H' H.next r lp.cut
theorem Fy{row cs:List Value}{o w:Nat}(h:cX row o w=some cs):o+w<=row.length/\cs=(row.drop o).take w:=by
 unfold cX at h;by_cases ai:o+w<=row.length
 ·rw[dA,bZF ai,cond_true]at h;exact⟨ai,(bZI h).symm⟩
 ·rw[dA,bZS ai,cond_false]at h;cases h
theorem CG{row:List Value}{o w:Nat}(h:o+w<=row.length):cX row o w=some ((row.drop o).take w):=by
 unfold cX;rw[dA,bZF h,cond_true]
theorem ayx{row:List Value}{off w n:Nat}(aF:0<n)(h:∀i,i<n->∃cs,cX row (off+i*w) w=some cs):∃l,cX row off (n*w)=some l/\l.length=n*w/\∀i,i<n->cX l (i*w) w=cX row (off+i*w) w:=by
 obtain⟨cs,af⟩:=h (n-1) (by omega);have ai:=(Fy af).1;have e:(n-1)*w+w=n*w:=by
  rw[<-bZz];congr 1;omega
 have hlen:off+n*w<=row.length:=by omega
 refine⟨_,CG hlen,by simp;omega,λi ad=>?_⟩;have hi':i*w+w<=n*w:=by
  rw[<-bZz];exact hQ _ ad
 rw[CG (show off+i*w+w<=row.length by omega),CG (by simp;omega)];congr 1;rw[List.drop_take,List.take_take,List.drop_drop];congr 1;omega
theorem ayy{w by' n lo b:Nat}{okl:List Nat}{l:List Value}(aF:0<n)(aO:l.all fG=true)(hw:1<=w)(Fz:n<=1000)(hK:by'<=200):
 (iV w by' (.slice none 0 0) l n).runT ⟨lo,okl,some b⟩ H=some (.slice (some ⟨b,0,none⟩) n n,H.put b (.cells l (.n w)),[],[b]):=by
 have ai:n*by'<=17179869184:=bH (ie Fz hK) (by decide);unfold iV;simp only[aO];simp[Perm.make,Perm.pick,ai,hw,show ¬n=0 by omega,show n<=17179869184 by omega]
theorem YU{w by' lo b:Nat}{okl:List Nat}{l:List Value}:(iV w by' (.slice none 0 0) l 0).runT ⟨lo,okl,some b⟩ H=some (.slice none 0 0,H,[],[]):=by
 unfold iV;simp
def mD(H:ah)(b n w:Nat)(l:List Value):ah:=if n=0 then H else H.put b (.cells l (.n w))
def rI(b n:Nat):List Nat:=if n=0 then[] else[b]
theorem copyV{w by' n lo b:Nat}{okl:List Nat}{l:List Value}(aO:l.all fG=true)(hw:1<=w)(Fz:n<=1000)(hK:by'<=200):
 (iV w by' (.slice none 0 0) l n).runT ⟨lo,okl,some b⟩ H=some (sl b n,mD H b n w l,[],rI b n):=by
 by_cases h:n=0
 ·subst h;exact YU
 ·rw[ayy (by omega) aO hw Fz hK,eQ (by omega),mD,aU h,rI,aU h]
theorem JD{b n w c:Nat}{l:List Value}(h:c≠b):(mD H b n w l).get c=H.get c:=by
 unfold mD;split
 ·rfl
 ·rw[cq h]
@[simp] theorem PV{b n w:Nat}{l:List Value}:(mD H b n w l).next=H.next:=by unfold mD;split<;>rfl
theorem PW{b n w:Nat}{l:List Value}(h:0<n):(mD H b n w l).get b=some (.cells l (.n w)):=by
 unfold mD;rw[aU (by omega),dX]
theorem YV{b n x:Nat}(h:b≠x):gp (rI b n) [x]=true/\gp [x] (rI b n)=true:=by
 unfold rI;split
 ·exact⟨rfl,rfl⟩
 ·exact⟨kS h,kS (Ne.symm h)⟩
abbrev tyU0:Nat:=T.ayz
abbrev tyU1:Nat:=T.ayA
abbrev tyU2:Nat:=T.ayB
theorem YW(m:Nat):et (some (Value.int .i64 (if 6<m then 6 else(m:Int))))=some (min m 6):=by
 by_cases h:6<m
 ·rw[bm h,Nat.min_eq_right (by omega)];rfl
 ·rw[aU h,bYL (by omega)];simp[et]
theorem ayC(m:Nat):et (some (Value.int .i64 (if 8<m then 8 else(m:Int))))=some (min m 8):=by
 by_cases h:8<m
 ·rw[bm h,Nat.min_eq_right (by omega)];rfl
 ·rw[aU h,bYL (by omega)];simp[et]
theorem PX{m w cap by' k:Nat}{base:Option Addr}{P:Nat->List Value->Prop}(h:hO H (.slice base m cap) m w P)(ag:k<=m)(hw:1<=w)(ayD:k<=1000)(hK:by'<=200)(zt:∀i cs,P i cs->cs.all fG=true):
 ∃f l,(∀x∈f,∃y,H.get x=some y)/\(0<k->l.length=k*w/\∀i,i<k->∃cs,cX l (i*w) w=some cs/\P i cs)/\
  ∀H',Ext H H'->∀lo b okl,(nK w base 0 k cap cap).runT ⟨lo,okl,some b⟩ H'=some (.slice base k cap,H',f,[])/\
   (hV w (.slice base k cap) λnew n=>iV w by' (.slice none 0 0) new n).runT ⟨lo,okl,some b⟩ H'=some (sl b k,mD H' b k w l,f,rI b k):=by
 obtain⟨_,_,e,hm,aD,U⟩:=h;cases e
 cases base with
 | none=>
   obtain rfl:m=0:=aD rfl;obtain rfl:k=0:=by omega
   refine⟨[],[],(by simp),λh=>absurd h (Nat.lt_irrefl 0),λH' _ lo b okl=>⟨by unfold nK;simp,?_⟩⟩;unfold hV;exact YU
 | some a=>
   obtain⟨c,off,row,rfl,aa,aq,a8⟩:=U _ rfl;have ai:k*w<=m*w:=hQ _ ag;have aO:∀i,i<k->∃cs,cX ((row.drop off).take (k*w)) (i*w) w=some cs/\P i cs:=λi ad=>by
    obtain⟨cs,cg,dj⟩:=a8 i (by omega);obtain⟨l,ao,e2,bd⟩:=ayx (n:=k) (row:=row) (off:=off) (w:=w) (by omega) (λi ad=>(a8 i (by omega)).imp λ_ h=>h.1);have:=(Fy ao).2;exact⟨cs,by rw[<-this,bd i ad,cg],dj⟩
   refine⟨[c],(row.drop off).take (k*w),λx az=>by rw[DZ.1 az];exact aa.elim (λh=>⟨_,h⟩) λh=>⟨_,h⟩,λCH=>⟨by simp;omega,aO⟩,λH' az lo b okl=>⟨?_,?_⟩⟩
   ·unfold nK
    rcases aa with aa | aa
    ·simp[show k<=cap by omega,az _ _ aa]
    ·simp[show k<=cap by omega,az _ _ aa]
   ·have mc:((row.drop off).take (k*w)).all fG=true:=by
     rw[hz];intro v aw;obtain⟨p,aC,rfl⟩:=bWh aw;have ri:p<k*w:=by
      have:=aC;simp at this;omega
     have aV:p/w<k:=bYI (by rw[gw];exact ri);obtain⟨cs,cg,dj⟩:=aO (p/w) aV;have j4:=(Fy cg).2;have Ei:=hz.1 (zt _ _ dj);have ayE:p%w<w:=bYe _ (by omega);have e:p/w*w+p%w=p:=by rw[gw];exact bXl p w
     refine Ei _ ?_;rw[j4];refine List.mem_iff_getElem?.2 ⟨p%w,?_⟩;rw[pT ayE,o',e];exact hG aC
    unfold hV
    rcases aa with aa | aa
    ·simp only[bF.runT,az _ _ aa,rowOf];rw[CG (by show off+k*w<=row.length;omega)];simp only;rw[copyV mc hw ayD hK]
    ·simp only[bF.runT,az _ _ aa,rowOf];rw[CG (by show off+k*w<=row.length;omega)];simp only;rw[copyV mc hw ayD hK]
def jk(L:List Value)(w n:Nat)(f:Nat->List Value):Prop:=L.length=n*w/\∀j,j<n->(f j).length=w/\∀k,k<w->L[j*w+k]? = (f j)[k]?
theorem jk.of{L:List Value}{w n:Nat}{f:Nat->List Value}(aO:L.length=n*w)(h:∀j,j<n->cX L (j*w) w=some (f j)):jk L w n f:=by
 refine⟨aO,λj aH=>?_⟩;obtain⟨U,aa⟩:=Fy (h j aH);refine⟨by rw[aa];simp;omega,λk ag=>?_⟩;rw[aa,pT ag,o']
theorem jk.lt{L:List Value}{w n j k:Nat}{f:Nat->List Value}(h:jk L w n f)(aH:j<n)(ag:k<w):j*w+k<L.length:=by
 have ai:j*w+w<=n*w:=by rw[<-bZz];exact hQ _ aH
 rw[h.1];omega
theorem jk.row{L:List Value}{w n j:Nat}{f:Nat->List Value}(h:jk L w n f)(aH:j<n):cX L (j*w) w=some (f j):=by
 have ai:j*w+w<=n*w:=by rw[<-bZz];exact hQ _ aH
 rw[CG (by rw[h.1];exact ai)];congr 1;apply bYj;intro k;by_cases ag:k<w
 ·rw[pT ag,o'];exact(h.2 j aH).2 k ag
 ·rw[jq (by simp;omega),jq (by rw[(h.2 j aH).1];omega)]
theorem jk.set{L:List Value}{w n j k:Nat}{f f':Nat->List Value}(h:jk L w n f)(aH:j<n)(ag:k<w)(v:Value)(he:f' j=(f j).set k v)(aF:∀i,i<n->i≠j->f' i=f i):jk (L.set (j*w+k) v) w n f':=by
 refine⟨by simp[h.1],λi ad=>⟨?_,λp aC=>?_⟩⟩
 ·by_cases e:i=j
  ·subst e;rw[he];simp;exact(h.2 i ad).1
  ·rw[aF i ad e];exact(h.2 i ad).1
 ·by_cases e:i=j
  ·subst e;rw[he];by_cases e2:p=k
   ·subst e2;rw[bXz (h.lt aH ag),bXz (by rw[(h.2 i ad).1];exact ag)]
   ·rw[bXC (by omega),bXC (Ne.symm e2)];exact(h.2 i ad).2 p aC
  ·rw[aF i ad e,bXC]
   ·exact(h.2 i ad).2 p aC
   ·rcases Nat.lt_or_gt_of_ne e with e | e
    ·have:i*w+w<=j*w:=by rw[<-bZz];exact hQ _ e
     omega
    ·have:j*w+w<=i*w:=by rw[<-bZz];exact hQ _ e
     omega
theorem jk.ex{l:List Value}{w n:Nat}{P:Nat->List Value->Prop}(aO:l.length=n*w)(h:∀i,i<n->∃cs,cX l (i*w) w=some cs/\P i cs):∃f,jk l w n f/\∀i,i<n->P i (f i):=by
 refine⟨λi=>(cX l (i*w) w).getD [],jk.of aO λj aH=>?_,λj aH=>?_⟩
 ·obtain⟨cs,e,_⟩:=h j aH;rw[e];rfl
 ·obtain⟨cs,e,p⟩:=h j aH;show P j ((cX l (j*w) w).getD []);rw[e];exact p
end Go.Dam.C
namespace Go.Dam.C
open Go Go.Dam
variable{X:aY}{pm:Perm}{H H' cL H0:ah}{n:Nat}
theorem bp.mD(u:bp pm n H H'){b k w:Nat}{l:List Value}(h:n<=b)(aK:H'.get b=none)(ai:b<H'.next):bp pm n H (C.mD H' b k w l):=by
 unfold C.mD;split
 ·exact u
 ·exact bp.fill u h aK ai _
theorem zX{a b:List Nat}{n:Nat}(h:∀x∈a,x<n)(gJ:∀x∈b,n<=x):gp a b=true/\gp b a=true:=by
 unfold gp;simp only[hz,mN,List.contains_eq_mem,decide_eq_false_iff_not];exact⟨λx az ai=>by have:=h x az;have:=gJ x ai;omega,λx az ai=>by have:=h x ai;have:=gJ x az;omega⟩
theorem JE{b n x:Nat}(h:x∈rI b n):x=b:=by
 unfold rI at h;split at h
 ·cases h
 ·simpa using h
structure iR(pm:Perm)(H0 H:ah)(bJ cO dZ ev dn dc:Nat)(gM eW:Nat->List Value):Prop where
 k:K pm H0 H
 r:H.get bJ=some (.cells [.slice none 0 0,.slice none 0 0] (.t tyU1))
 x:H.get cO=some (.cells [sl dZ dn,sl ev dc] (.t tyU2))
 c:0<dn->∃L,H.get dZ=some (.cells L (.n 5))/\jk L 5 dn gM
 w:0<dc->∃L,H.get ev=some (.cells L (.n 5))/\jk L 5 dc eW
structure CI(H0:ah)(bJ cO dZ ev:Nat):Prop where
 U:H0.next<=bJ
 aa:bJ<dZ
 aq:dZ<ev
 a8:ev<cO
variable{bJ cO dZ ev dn dc:Nat}{gM eW:Nat->List Value}
theorem iR.up(s:iR pm H0 H bJ cO dZ ev dn dc gM eW)(u:K pm H H'):iR pm H0 H' bJ cO dZ ev dn dc gM eW where
 k:=K.trans s.k u
 r:=u.some s.k.aL s.r
 x:=u.some s.k.aL s.x
 c:=λh=>(s.c h).imp λ_ h=>⟨u.some s.k.aL h.1,h.2⟩
 w:=λh=>(s.w h).imp λ_ h=>⟨u.some s.k.aL h.1,h.2⟩
theorem iR.put(s:iR pm H0 H bJ cO dZ ev dn dc gM eW)(q:CI H0 bJ cO dZ ev){b:Nat}{y x:cj}(ai:cO<b)(aK:H.get b=some y)(bu:∀o,y≠.eE o):iR pm H0 (H.put b x) bJ cO dZ ev dn dc gM eW where
 k:=bp.put s.k (by have:=q.U;have:=q.aa;have:=q.aq;have:=q.a8;omega) aK bu _
 r:=by rw[cq (by have:=q.U;have:=q.aa;have:=q.aq;have:=q.a8;omega)];exact s.r
 x:=by rw[cq (by omega)];exact s.x
 c:=λh=>(s.c h).imp λ_ h=>⟨by rw[cq (by have:=q.aq;have:=q.a8;omega)];exact h.1,h.2⟩
 w:=λh=>(s.w h).imp λ_ h=>⟨by rw[cq (by have:=q.a8;omega)];exact h.1,h.2⟩
theorem iR.row(s:iR pm H0 H bJ cO dZ ev dn dc gM eW)(q:CI H0 bJ cO dZ ev){PY:Nat->List Value}{i k:Nat}{v:Value}(ad:i<dc)(ag:k<5)(bc:PY i=(eW i).set k v)(aF:∀j,j<dc->j≠i->PY j=eW j){L:List Value}(bC:H.get ev=some (.cells L (.n 5))):
 iR pm H0 (H.put ev (.cells (L.set (i*5+k) v) (.n 5))) bJ cO dZ ev dn dc gM PY where
 k:=bp.put s.k (by have:=q.U;have:=q.aa;have:=q.aq;have:=q.a8;omega) bC (by simp) _
 r:=by rw[cq (by have:=q.U;have:=q.aa;have:=q.aq;have:=q.a8;omega)];exact s.r
 x:=by rw[cq (by have:=q.a8;omega)];exact s.x
 c:=λh=>(s.c h).imp λ_ h=>⟨by rw[cq (by have:=q.aq;have:=q.a8;omega)];exact h.1,h.2⟩
 w:=λh=>by
  obtain⟨L',U,aa⟩:=s.w h;rw[bC]at U;cases U;exact⟨_,dX,aa.set ad ag v bc aF⟩
theorem iR.col(s:iR pm H0 H bJ cO dZ ev dn dc gM eW)(q:CI H0 bJ cO dZ ev){PZ:Nat->List Value}{i k:Nat}{v:Value}(ad:i<dn)(ag:k<5)(bc:PZ i=(gM i).set k v)(aF:∀j,j<dn->j≠i->PZ j=gM j){L:List Value}(bC:H.get dZ=some (.cells L (.n 5))):
 iR pm H0 (H.put dZ (.cells (L.set (i*5+k) v) (.n 5))) bJ cO dZ ev dn dc PZ eW where
 k:=bp.put s.k (by have:=q.U;have:=q.aa;have:=q.aq;have:=q.a8;omega) bC (by simp) _
 r:=by rw[cq (by have:=q.U;have:=q.aa;have:=q.aq;have:=q.a8;omega)];exact s.r
 x:=by rw[cq (by have:=q.aq;have:=q.a8;omega)];exact s.x
 c:=λh=>by
  obtain⟨L',U,aa⟩:=s.c h;rw[bC]at U;cases U;exact⟨_,dX,aa.set ad ag v bc aF⟩
 w:=λh=>(s.w h).imp λ_ h=>⟨by rw[cq (by have:=q.aq;have:=q.a8;omega)];exact h.1,h.2⟩
def JF(c:fb):fb:={c with v:=c.v.take 20}
def ayF:fb:=⟨0,[]⟩
theorem ayG(al:bXd X)(g0:cl pm H0)(q:CI H0 bJ cO dZ ev)(s:iR pm H0 H bJ cO dZ ev dn dc gM eW)(oB:dc<=6){i:Nat}(ad:i<dc){r:di}{vc:Value}(an:eW i=r.cells vc)
 (nd:hO H0 vc r.cM.length 2 λi cs=>∃c,r.cM[i]? = some c/\cs=c.cells) {R:c'}
 (dD:∀l' H' rJ,Sub [(27,.int .i64 (i:Int)),(26,.int .i64 (dc:Int)),(2,.pointer (some ⟨bJ,0,none⟩)),(3,.pointer (some ⟨cO,0,none⟩))] l'->iR pm H0 H' bJ cO dZ ev dn dc gM (λj=>if j=i then r.cut.cells rJ else eW j)->nX H' rJ r.cut.cM->np H.next rJ->(∀b y,b≠ev->H.get b=some y->H'.get b=some y)->R .normal l' H'):
 wp X pm (.code (.seq (.aT [m 29 27,m 4 29]) C.P0)) [(28,.bool true),(27,.int .i64 (i:Int)),(26,.int .i64 (dc:Int)),(2,.pointer (some ⟨bJ,0,none⟩)),(3,.pointer (some ⟨cO,0,none⟩))] H [] R:=by
 have g:=s.k.aL;have bn:=q.U;have bh:=q.aa;have cu:=q.aq;have e9:=q.a8;have eT:=g.lt s.x;obtain⟨L,bC,mV⟩:=s.w (by omega);have CJ:=s.x;rw[eQ (show 0<dc by omega)]at CJ;have e2:L[i*5+2]? = some vc:=by rw[(mV.2 i ad).2 2 (by decide),an];rfl
 obtain⟨base,cap,rfl,_⟩:=id nd;obtain⟨f,ak,bc,Ek,gy⟩:=PX (by':=24) (k:=min r.cM.length 8) (nd.imp (s.k.ext g0) λ_ _ _ h=>h) (Nat.min_le_left _ _) (by decide) (by omega) (by decide) (λi cs ⟨c,_,e⟩=>by rw[e];rfl);have CK:∀x∈f,x<H.next:=λx az=>by obtain⟨y,bu⟩:=bc x az;exact g.lt bu
 obtain⟨eG,pZ⟩:=bZa (min r.cM.length 8);have m8:=ayC r.cM.length;rw[<-pZ]at gy Ek m8;obtain⟨z,bl⟩:=bZa (H.next);have bE:K pm H (H.up 22):=(K.refl g).up 22;have cy:=(gy _ (bE.ext g) pm.lo (z+17) pm.ok).1;have dd:=(gy _ (bE.ext g) pm.lo (z+18) pm.ok).2;obtain⟨fL,fc⟩:=bZa (mD (H.up 22) (z+18) eG 2 ak);have hD:K pm H fL:=by rw[fc];exact bp.mD bE (by omega) (by rw[bl];exact g.none 18) (by show z+18<H.next+22;omega)
 rw[<-fc]at dd;have oP:∀j,j≠18->fL.get (z+j)=none:=λj aH=>by rw[fc,JD (by omega),bl];exact g.none j
 have P1:fL.next=z+22:=by rw[fc,PV,bl];rfl
 have YX:=hD.some g bC;have YY:=hD.some g CJ;obtain⟨fV,fg⟩:=bZa (fL.put ev (.cells (L.set (i*5+2) (sl (z+18) eG)) (.n 5)));have s2:iR pm H0 fV bJ cO dZ ev dn dc gM (λj=>if j=i then r.cells (sl (z+18) eG) else eW j):=by
  rw[fg];exact(s.up hD).row q ad (by decide) (by rw[an];simp[di.cells]) (λj _ h=>by simp[h]) YX
 have oN:∀b i,fG (sl b i)=true:=λb i=>by unfold sl;split<;>rfl
 have oO:∀b i,(sl b i).cells=#[sl b i]:=λb i=>by unfold sl;split<;>rfl
 have hlen:=mV.lt ad (show 2<5 by decide);have JG:setCells L (i*5+2) [sl (z+18) eG]=some (L.set (i*5+2) (sl (z+18) eG)):=setCells_one hlen;have ya:=λo=>jh (lo:=pm.lo) (ok:=pm.ok) (o:=o) (b:=ev) (by have:=g0.lo;omega);have d1:=(zX (a:=[cO]) (b:=rI (z+18) eG) (n:=z) (λx az=>by rw[DZ.1 az];omega) (λx az=>by rw[JE az];omega)).2;have hP:cO<z:=by omega
 have lf:ev<z:=by omega
 have mS:=λj=>(by rw[bl];exact g.none j:(H.up 22).get (z+j)=none);have FA:=(by rw[bl];exact g.fo:(H.up 22).get z=none);simp[-JH];refine eg.of g.lo rfl ?_;rw[<-bl];simp[dt,mS,FA,CJ,bC,ad,e2,m8,cy,dd,oP,YX, oO,oN,JG,ya,<-fg,d1,hP,lf,dx,dm,ez,-hV,-JH];refine⟨⟨λx az=>.inl (.inl (.inl (by have:=CK x az;omega))),λx az=>.inl (.inl (.inl (by have:=CK x az;omega)))⟩,?_⟩;clear m8 cy dd oP YY JG mS FA;have g2:=s2.k.aL;have YZ:=s2.x;rw[eQ (show 0<dc by omega)]at YZ;obtain⟨kz,wy,Y0⟩:=s2.w (by omega);have fU:fV.next=z+22:=by rw[fg];exact P1
 have bd:kz[i*5+3]? = some (aW r.rhs):=by rw[(Y0.2 i ad).2 3 (by decide)];simp[di.cells]
 obtain⟨fW,fp⟩:=bZa ((fV.up 13).put ev (.cells (kz.set (i*5+3) (aW (r.rhs.take 30))) (.n 5)));have pB:K pm fV (fV.up 13):=(K.refl g2).up 13;have de:iR pm H0 fW bJ cO dZ ev dn dc gM (λj=>if j=i then({r with rhs:=r.rhs.take 30}:di).cells (sl (z+18) eG) else eW j):=by
  rw[fp];exact(s2.up pB).row q ad (by decide) (by simp[di.cells]) (λj _ h=>by simp[h]) wy
 have P2:setCells kz (i*5+3) [aW (r.rhs.take 30)]=some (kz.set (i*5+3) (aW (r.rhs.take 30))):=setCells_one (Y0.lt ad (by decide));have h1:cO<fV.next:=by omega
 have dO:ev<fV.next:=by omega
 simp[-FB];refine eg.of g2.lo rfl ?_;simp[dt,g2.none,g2.fo,YZ,wy,ad,bd,-FB];refine bZk pB.aL (vs:=[aW r.rhs,.int .i64 30]) (by simp[g2.none]) (λpm' bS=>kM bS (zK al (n:=30) (by omega))) ?_;rintro _ _-⟨rfl,rfl⟩;simp[g2.none,wy,ad,P2,ya,<-fp,h1,dO,dx,dm,eJ,ez,gI,-FB];have g3:=de.k.aL;have Y1:=de.x;rw[eQ (show 0<dc by omega)]at Y1;obtain⟨JI,JJ,ayH⟩:=de.w (by omega);have b1:JI[i*5+2]? = some (sl (z+18) eG):=by rw[(ayH.2 i ad).2 2 (by decide)];simp[di.cells]
 obtain⟨aGo,jQ⟩:∃a,sl (z+18) eG=.slice a eG eG:=by
  unfold sl;split
  ·rename_i h;exact⟨none,by rw[h]⟩
  ·exact⟨_,rfl⟩
 rw[jQ]at b1;simp[Y1,JJ,ad,b1,-P3];obtain⟨cQ,mY⟩:∃cQ:Nat->fb,∀j,j<r.cM.length->r.cM[j]? = some (cQ j):=⟨λj=>r.cM.getD j ayF,λj aH=>by simp[aH]⟩;have CH:∀b y,b≠ev->H.get b=some y->fW.get b=some y:=λb y ai h=>by
  rw[fp,cq ai,zY,fg,cq ai];exact hD.some g h
 have dp:0<eG->∃M,fW.get (z+18)=some (.cells M (.n 2))/\jk M 2 eG (λj=>if j<0 then(JF (cQ j)).cells else(cQ j).cells):=λh=>by
  obtain⟨U,aa⟩:=Ek h;refine⟨ak,by rw[fp,cq (by omega),zY,fg,cq (by omega),fc];exact PW h,jk.of U λj aH=>?_⟩;obtain⟨cs,ao,c,e2,rfl⟩:=aa j aH;rw[ao];rw[mY j (by omega)]at e2;cases e2;simp
 clear fc fg fp Ek gy
 refine gG (σ:=Unit) eG (λ_ _=>[(27,.int .i64 (i:Int)),(26,.int .i64 (dc:Int)),(2,.pointer (some ⟨bJ,0,none⟩)),(3,.pointer (some ⟨cO,0,none⟩)),(4,.int .i64 (i:Int))])
  (λk _ H'=>iR pm H0 H' bJ cO dZ ev dn dc gM (λj=>if j=i then({r with rhs:=r.rhs.take 30}:di).cells (sl (z+18) eG) else eW j)/\(0<eG->∃M,H'.get (z+18)=some (.cells M (.n 2))/\jk M 2 eG (λj=>if j<k then(JF (cQ j)).cells else(cQ j).cells))/\∀b y,b≠ev->H.get b=some y->H'.get b=some y)
  () (by decide) (by omega) (by simp) ⟨de,dp,CH⟩ (by simp) ?_ ?_
 ·rintro k _ qJ ag ⟨qK,P4,P5⟩;obtain⟨M,CL,FC⟩:=P4 (by omega);have nr:=qK.k.aL;have P6:=qK.x;rw[eQ (show 0<dc by omega)]at P6;obtain⟨ayI,Y2,ayJ⟩:=qK.w (by omega);have cK:ayI[i*5+2]? = some (sl (z+18) eG):=by rw[(ayJ.2 i ad).2 2 (by decide)];simp[di.cells]
  rw[eQ (show 0<eG by omega)]at cK;obtain⟨eH,Y3⟩:=bZa ((cQ k).v);have il:M[k*2+1]? = some (aW eH):=by rw[(FC.2 k ag).2 1 (by decide),Y3];simp[fb.cells]
  have Y4:K pm qJ (qJ.up 21):=(K.refl nr).up 21;obtain⟨sM,yg⟩:=bZa ((qJ.up 21).put (z+18) (.cells (M.set (k*2+1) (aW (eH.take 20))) (.n 2)));have P7:setCells M (k*2+1) [aW (eH.take 20)]=some (M.set (k*2+1) (aW (eH.take 20))):=setCells_one (FC.lt ag (by decide));have ayK:=λo=>jh (lo:=pm.lo) (ok:=pm.ok) (o:=o) (b:=z+18) (by have:=g0.lo;omega);have rK:iR pm H0 sM bJ cO dZ ev dn dc gM (λj=>if j=i then({r with rhs:=r.rhs.take 30}:di).cells (sl (z+18) eG) else eW j):=by
   rw[yg];exact(qK.up Y4).put q (by omega) CL (by simp)
  have m1:=nr.lt P6;have m2:=nr.lt Y2;have m3:=nr.lt CL;have aGp:z+18≠ev:=by omega
  simp;refine eg.of nr.lo rfl ?_;simp[dt,nr.none,nr.fo,P6,Y2,ad,cK,CL,ag,il];refine bZk Y4.aL (vs:=[aW eH,.int .i64 20]) (by simp[nr.none]) (λpm' bS=>kM bS (zK al (n:=20) (by omega))) ?_;rintro _ _-⟨rfl,rfl⟩;simp[nr.none,CL,ag,P7,ayK,<-yg,m1,m2,m3,dx,dm,eJ,ez,gI];refine⟨rK,λ_=>⟨_,by rw[yg];exact dX,FC.set ag (by decide) _ ?_ λj aH Vh=>?_⟩,λb y ai h=>?_⟩
  ·simp[JF,fb.cells,Y3]
  ·by_cases e:j<k
   ·simp[e,show j<k+1 by omega]
   ·simp[e,show ¬j<k+1 by omega]
  ·have:=g.lt h;rw[yg,cq (by omega),zY];exact P5 b y ai h
 ·rintro _ qJ ⟨qK,P4,P5⟩;simp;have d':r.cut.cM.length=eG:=by simp[di.cut];omega
  refine dD _ _ (sl (z+18) eG) (by simp) ?_ ?_ ?_ P5
  ·have e:(λj=>if j=i then r.cut.cells (sl (z+18) eG) else eW j)=(λj=>if j=i then({r with rhs:=r.rhs.take 30}:di).cells (sl (z+18) eG) else eW j):=by
    funext j;split<;>rfl
   rw[e];exact qK
  ·by_cases aD:eG=0
   ·refine⟨none,0,by rw[d',aD];rfl,λj aH=>by omega⟩
   ·obtain⟨M,CL,FC⟩:=P4 (by omega);refine⟨_,eG,by rw[d',eQ (by omega)],λj aH=>⟨z+18,0,_,M,_,rfl,CL,rfl,by rw[Nat.zero_add];exact FC.row (by omega),JF (cQ j),?_,by simp[show j<eG by omega]⟩⟩;have qG:j<8:=by omega
    simp[di.cut, qG,mY j (by omega)];rfl
  ·unfold sl;split
   ·trivial
   ·rename_i aD;exact⟨by show H.next<=z+18;omega,by omega⟩
end Go.Dam.C
namespace Go.Dam.C
open Go Go.Dam
variable{X:aY}{pm:Perm}{H H' cL H0:ah}{n bJ cO dZ ev dn dc:Nat}{gM eW:Nat->List Value}
theorem ayL(al:bXd X)(g0:cl pm H0)(q:CI H0 bJ cO dZ ev)(s:iR pm H0 H bJ cO dZ ev dn dc gM eW)(sN:dn<=6){i:Nat}(ad:i<dn){c:eu}(af:gM i=c.cells){R:c'}
 (dD:∀l' H',Sub [(98,.int .i64 (i:Int)),(97,.int .i64 (dn:Int)),(2,.pointer (some ⟨bJ,0,none⟩)),(3,.pointer (some ⟨cO,0,none⟩))] l'->iR pm H0 H' bJ cO dZ ev dn dc (λj=>if j=i then c.cut.cells else gM j) eW->(∀b y,b≠dZ->H.get b=some y->H'.get b=some y)->R .normal l' H'):
 wp X pm (.code (.seq (.aT [m 100 98,m 6 100]) C.P8)) [(99,.bool true),(98,.int .i64 (i:Int)),(97,.int .i64 (dn:Int)),(2,.pointer (some ⟨bJ,0,none⟩)),(3,.pointer (some ⟨cO,0,none⟩))] H [] R:=by
 have g:=s.k.aL;have bn:=q.U;have bh:=q.aa;have cu:=q.aq;have e9:=q.a8;have eT:=g.lt s.x;obtain⟨L,bC,mV⟩:=s.c (by omega);have CJ:=s.x;rw[eQ (show 0<dn by omega)]at CJ;have hP:=g.lt bC;have ao:L[i*5+1]? = some (aW c.low):=by rw[(mV.2 i ad).2 1 (by decide),af];rfl
 have e2:L[i*5+2]? = some (aW c.up):=by rw[(mV.2 i ad).2 2 (by decide),af];rfl
 have bd:L[i*5+3]? = some (aW c.cost):=by rw[(mV.2 i ad).2 3 (by decide),af];rfl
 have cR:=mV.lt ad (show 1<5 by decide);have b9:=mV.lt ad (show 2<5 by decide);have fK:=mV.lt ad (show 3<5 by decide);have bE:K pm H (H.up 39):=(K.refl g).up 39;have sg:=λo=>jh (lo:=pm.lo) (ok:=pm.ok) (o:=o) (b:=dZ) (by have:=g0.lo;omega);obtain⟨j9,FD⟩:=bZa (L.set (i*5+1) (aW (c.low.take 20)));obtain⟨kz,wy⟩:=bZa (j9.set (i*5+2) (aW (c.up.take 20)));obtain⟨JI,JJ⟩:=bZa (kz.set (i*5+3) (aW (c.cost.take 20)));obtain⟨fL,fc⟩:=bZa ((H.up 39).put dZ (.cells j9 (.n 5)));obtain⟨fV,fg⟩:=bZa (fL.put dZ (.cells kz (.n 5)));obtain⟨fW,fp⟩:=bZa (fV.put dZ (.cells JI (.n 5)));have cx:=bZv fc;have a2:=bZv fg;have JG:setCells L (i*5+1) [aW (c.low.take 20)]=some j9:=by rw[FD];exact setCells_one cR
 have P2:setCells j9 (i*5+2) [aW (c.up.take 20)]=some kz:=by rw[wy];exact setCells_one (by rw[FD];simpa using b9)
 have P7:setCells kz (i*5+3) [aW (c.cost.take 20)]=some JI:=by rw[JJ];exact setCells_one (by rw[wy,FD];simpa using fK)
 have s1:iR pm H0 fL bJ cO dZ ev dn dc (λj=>if j=i then({c with low:=c.low.take 20}:eu).cells else gM j) eW:=by
  rw[fc,FD];exact(s.up bE).col q ad (by decide) (by rw[af];simp[eu.cells]) (λj _ h=>by simp[h]) bC
 have s2:iR pm H0 fV bJ cO dZ ev dn dc (λj=>if j=i then({c with low:=c.low.take 20,up:=c.up.take 20}:eu).cells else gM j) eW:=by
  rw[fg,wy];exact s1.col q ad (by decide) (by simp[eu.cells]) (λj _ h=>by simp[h]) cx
 have de:iR pm H0 fW bJ cO dZ ev dn dc (λj=>if j=i then c.cut.cells else gM j) eW:=by
  rw[fp,JJ];exact s2.col q ad (by decide) (by simp[eu.cells,eu.cut]) (λj _ h=>by simp[h]) a2
 have Y5:∀j,fL.get (H.next+j)=none/\fV.get (H.next+j)=none:=λj=>by
  have U:fL.get (H.next+j)=none:=by rw[fc,cq (by omega)];exact g.none j
  exact⟨U,by rw[fg,cq (by omega)];exact U⟩
 have ayM:gp [dZ] [cO]=true:=kS (by omega);have ayN:=λj=>(Y5 j).1;have ayO:=λj=>(Y5 j).2;simp;refine eg.of g.lo rfl ?_;simp[dt,g.none,g.fo,CJ,bC,ad,ao,e2,bd];refine bZk bE.aL (vs:=[aW c.low,.int .i64 20]) (by simp[g.none]) (λpm' bS=>kM bS (zK al (n:=20) (by omega))) ?_;rintro _ _-⟨rfl,rfl⟩;simp;refine bZk bE.aL (vs:=[aW c.up,.int .i64 20]) (by simp[g.none]) (λpm' bS=>kM bS (zK al (n:=20) (by omega))) ?_;rintro _ _-⟨rfl,rfl⟩;simp;refine bZk bE.aL (vs:=[aW c.cost,.int .i64 20]) (by simp[g.none]) (λpm' bS=>kM bS (zK al (n:=20) (by omega))) ?_;rintro _ _-⟨rfl,rfl⟩;simp[g.none,bC,ad,JG,sg,<-fc,ayN,cx,P2,<-fg,ayO,a2,P7,<-fp,ayM,eT,hP,dx,dm,eJ,ez,gI];refine dD _ _ ?_ de λb y ai h=>?_
 ·simp
 rw[fp,cq ai,fg,cq ai,fc,cq ai,zY];exact h
end Go.Dam.C
namespace Go.Dam.C
open Go Go.Dam
variable{X:aY}{pm:Perm}{H H' cL H0:ah}{n:Nat}
theorem jk.Y6{b k w:Nat}{f:Nat->List Value}{P:Nat->List Value->Prop}(h:0<k->∃L,H.get b=some (.cells L (.n w))/\jk L w k f)(aC:∀i,i<k->P i (f i)):zWa H (sl b k) k w P:=by
 by_cases ag:0<k
 ·obtain⟨L,U,aa⟩:=h ag;exact⟨_,k,eQ ag,λi ad=>⟨b,0,_,L,_,rfl,U,rfl,by rw[Nat.zero_add];exact aa.row ad,aC i ad⟩⟩
 ·obtain rfl:k=0:=by omega
  exact⟨none,0,rfl,λi ad=>by omega⟩
theorem np.mono{ba n1:Nat}{v:Value}(h:np ba v)(aF:n1<=ba):np n1 v:=by
 unfold np at*
 split
 ·exact⟨bH aF h.1,h.2⟩
 ·trivial
theorem np.sl{ba b k:Nat}(h:ba<=b):np ba (sl b k):=by
 unfold C.sl;split
 ·trivial
 ·rename_i aD;exact⟨h,by omega⟩
theorem zWa.ne{v:Value}{m w ba b:Nat}{P:Nat->List Value->Prop}(h:zWa H v m w P)(bc:np ba v)(ai:b<ba)(aK:∀c y,c≠b->H.get c=some y->H'.get c=some y):zWa H' v m w P:=by
 obtain⟨base,cap,rfl,eU⟩:=h.ex;refine⟨base,cap,rfl,λi ad=>?_⟩;obtain⟨c,off,y,row,cs,rfl,e2,bd,b1,cK⟩:=eU i ad;have bc:ba<=c:=bc.1;exact⟨c,off,y,row,cs,rfl,aK _ _ (by omega) e2,bd,b1,cK⟩
theorem ayP(al:bXd X):YJ X:=by
 intro pm H g v lp aw;refine Call.h6 al.wk rfl λQ bU=>?_;obtain⟨v1,v2,rfl,af,an⟩:=aw;obtain⟨base,cap,rfl,kj⟩:=id af;obtain⟨dG,dE,rfl,rr⟩:=id an;obtain⟨jW,jR⟩:=bZa (H.next);obtain⟨H1,cw⟩:=bZa (H.new (.cells [.slice base lp.aj.length cap,.slice dG lp.rows.length dE] (.t tyU0)));have av:=bZi g cw;have g1:=av.aL;have h4:=bZp cw jR;obtain⟨bJ,zq0⟩:=bZa (H1.next);obtain⟨aJ,ee⟩:=bZa (H1.new (.cells [.slice none 0 0,.slice none 0 0] (.t tyU1)));have aI:=bZi g1 ee;have g2:=aI.aL;have ayQ:=bZp ee zq0;have P9:=aI.some g1 h4;have h8:=av.trans aI;have n1:=bV cw jR;have fU:=bV ee zq0;obtain⟨gM,lc,ayR,JK,mY⟩:=PX (by':=72) (k:=min lp.aj.length 6) (af.imp (h8.ext g) λ_ _ _ h=>h) (Nat.min_le_left _ _) (by decide) (by omega) (by decide) (λi cs ⟨c,_,e⟩=>by rw[e];rfl);obtain⟨eW,cc,e8,P',nk⟩:=PX (by':=80) (k:=min lp.rows.length 6) (hO.imp an (h8.ext g) λ_ _ _ h=>h) (Nat.min_le_left _ _) (by decide) (by omega) (by decide) (λi cs ⟨c,vc,_,e,e2⟩=>by
  rw[e];obtain⟨_,_,bd,_⟩:=e2;rw[bd];rfl)
 have Qa:∀x∈gM,x<aJ.next:=λx az=>by obtain⟨y,bu⟩:=ayR x az;exact g2.lt bu
 have JL:∀x∈eW,x<aJ.next:=λx az=>by obtain⟨y,bu⟩:=e8 x az;exact g2.lt bu
 obtain⟨dn,sN⟩:=bZa (min lp.aj.length 6);obtain⟨dc,oB⟩:=bZa (min lp.rows.length 6);rw[<-sN]at mY JK;rw[<-oB]at nk P';have m1:=YW lp.aj.length;have m2:=YW lp.rows.length;rw[<-sN]at m1;rw[<-oB]at m2;obtain⟨z,bl⟩:=bZa (aJ.next);have bE:K pm aJ (aJ.up 19):=(K.refl g2).up 19;have Y7:=bE.ext g2;obtain⟨fL,fc⟩:=bZa (mD (aJ.up 19) (z+7) dn 5 lc);have hD:K pm aJ fL:=by rw[fc];exact bp.mD bE (by omega) (by rw[bl];exact g2.none 7) (by show z+7<aJ.next+19;omega)
 have cy:=(mY _ Y7 pm.lo (z+6) pm.ok).1;have dd:=(mY _ Y7 pm.lo (z+7) pm.ok).2;have Y8:=hD.ext g2;obtain⟨fV,fg⟩:=bZa (mD fL (z+15) dc 5 cc);have oP:∀j,j≠7->fL.get (z+j)=none:=λj aH=>by rw[fc,JD (by omega),bl];exact g2.none j
 have P1:fL.next=z+19:=by rw[fc,PV,bl];rfl
 have Y9:K pm aJ fV:=by rw[fg];exact bp.mD hD (by omega) (oP 15 (by decide)) (by omega)
 have dy:=(nk _ Y8 pm.lo (z+14) pm.ok).1;have iZ:=(nk _ Y8 pm.lo (z+15) pm.ok).2;have rL:∀j,j≠7->j≠15->fV.get (z+j)=none:=λj aH j8=>by rw[fg,JD (by omega)];exact oP j aH
 have ayS:fV.next=z+19:=by rw[fg,PV,P1]
 rw[<-fc]at dd;rw[<-fg]at iZ;have ayT:=hD.some g2 P9;have ayU:=Y9.some g2 P9;simp[g.pick,g.make,ptr,<-jR,<-cw,  <-zq0,<-ee,-JM];refine eg.of g2.lo rfl ?_;rw[<-bl];have mS:=λj=>(by rw[bl];exact g2.none j:(aJ.up 19).get (z+j)=none);have FA:=(by rw[bl];exact g2.fo:(aJ.up 19).get z=none);have oN:∀b i,fG (sl b i)=true:=λb i=>by unfold sl;split<;>rfl
 have oO:∀b i,(sl b i).cells=#[sl b i]:=λb i=>by unfold sl;split<;>rfl
 obtain⟨fW,fp⟩:=bZa (fV.put (z+17) (.cells [.slice none 0 0,.slice none 0 0] (.t tyU2)));obtain⟨oQ,km⟩:=bZa (fW.put (z+17) (.cells [sl (z+7) dn,sl (z+15) dc] (.t tyU2)));have uy:fW.get (z+18)=none:=by rw[fp,cq (by omega)];exact rL 18 (by decide) (by decide)
 have Qb:fW.get (z+17)=some (.cells [.slice none 0 0,.slice none 0 0] (.t tyU2)):=by rw[fp];exact dX
 have x9:=λo=>jh (lo:=pm.lo) (ok:=pm.ok) (o:=o) (b:=z+17) (by have:=g2.lo;omega);have ayV:jW<z:=by omega
 have lb:∀j k,∀x∈rI (z+j) k,z<=x:=λj k x az=>by rw[JE az];omega
 have jR:∀x∈[jW],x<z:=λx az=>by rw[DZ.1 az];omega
 have Qc:∀x∈[z+17],z<=x:=λx az=>by rw[DZ.1 az];omega
 rw[<-bl]at Qa JL;have d1:=λj k=>(zX jR (lb j k)).2;have d2:=λj k=>(zX JL (lb j k)).2;have d3:=(zX jR Qc).2;have d4:=(zX Qa Qc).2;have d5:=(zX JL Qc).2;have d6:=(YV (n:=dn) (show z+7≠z+17 by omega)).2;have d7:=(YV (n:=dc) (show z+15≠z+17 by omega)).2;have d8:=zX (a:=rI (z+7) dn) (b:=rI (z+15) dc) (n:=z+8) (λx az=>by rw[JE az];omega) (λx az=>by rw[JE az];omega);have f1:∀b∈gM,b<z∨z+19<=b:=λb ai=>.inl (Qa b ai);have f2:∀b∈eW,b<z∨z+19<=b:=λb ai=>.inl (JL b ai);simp[d1,d2,d3,d4,d5,d6,d7,  ayV, ez,dt,mS,FA,P9,m1,cy,dd,oP,ayT,m2,dy,iZ,rL, oO,oN,setCells,c5,Perm.make,Perm.pick,ptr,<-fp,uy,Qb,x9,<-km,dx,dm,-hV,-JM];refine⟨⟨λx az=>.inl (.inl (f1 x az)),λx az=>.inl (.inl (f1 x az)),λx az=>.inl (.inl (f2 x az)),λx az=>.inl (.inl (f2 x az))⟩,?_⟩;have ayW:fW.next=z+19:=by rw[fp];exact ayS
 have ayX:K pm aJ fW:=by rw[fp];exact bp.fill Y9 (by omega) (rL 17 (by decide) (by decide)) (by omega) _
 have JN:K pm aJ oQ:=by rw[km];exact bp.put ayX (by omega) Qb (by simp) _
 have aGq:oQ.next=z+19:=by rw[km];exact ayW
 have q:CI H bJ (z+17) (z+7) (z+15):=⟨by omega,by omega,by omega,by omega⟩;obtain⟨ac,rM⟩:∃f:Nat->eu,∀j,j<lp.aj.length->lp.aj[j]? = some (f j):=⟨λj=>lp.aj.getD j ⟨[],[],[],[],false⟩,λj aH=>by simp[aH]⟩;obtain⟨ar,py⟩:∃f:Nat->di,∀j,j<lp.rows.length->lp.rows[j]? = some (f j):=⟨λj=>lp.rows.getD j ⟨[],0,[],[],[]⟩,λj aH=>by simp[aH]⟩;obtain⟨v0,iy⟩:∃v0:Nat->Value,∀j,j<dc->(cX cc (j*5) 5=some ((ar j).cells (v0 j))/\hO H (v0 j) (ar j).cM.length 2 λi cs=>∃c,(ar j).cM[i]? = some c/\cs=c.cells):=by
  have:∀j,∃v,j<dc->(cX cc (j*5) 5=some ((ar j).cells v)/\hO H v (ar j).cM.length 2 λi cs=>∃c,(ar j).cM[i]? = some c/\cs=c.cells):=λj=>by
   by_cases aH:j<dc
   ·obtain⟨cs,ao,r,vc,e2,rfl,bd⟩:=(P' (by omega)).2 j aH;rw[py j (by omega)]at e2;cases e2;exact⟨vc,λ_=>⟨ao,bd⟩⟩
   ·exact⟨.bool true,λh=>absurd h aH⟩
  exact⟨λj=>(this j).choose,λj=>(this j).choose_spec⟩
 have iQ:iR pm H oQ bJ (z+17) (z+7) (z+15) dn dc (λj=>(ac j).cells) (λj=>(ar j).cells (v0 j)):=by
  refine⟨K.trans h8 JN,JN.some g2 ayQ,by rw[km];exact dX,λh=>⟨lc,?_,jk.of (JK h).1 λj aH=>?_⟩,λh=>⟨cc,?_,jk.of (P' h).1 λj aH=>(iy j aH).1⟩⟩
  ·rw[km,cq (by omega),fp,cq (by omega),fg,JD (by omega),fc];exact PW h
  ·obtain⟨cs,ao,c,e2,rfl⟩:=(JK h).2 j aH;rw[rM j (by omega)]at e2;cases e2;exact ao
  ·rw[km,cq (by omega),fp,cq (by omega),fg];exact PW h
 have aGr:=JN.aL;have aGs:K pm H oQ:=K.trans h8 JN;clear fc fg fp km nk mY cy dd dy iZ oP rL uy Qb d1 d2 d3 d4 d5 d6 d7 d8 f1 f2 mS FA lb;obtain⟨iS,uz,_⟩:=uA (z+7) dn;obtain⟨aGt,Y',_⟩:=uA (z+15) dc;have sc:=iQ.x;rw[uz,Y']at sc;simp[sc,-Qd,-Qe]
 refine gG (σ:=Nat->Value) dc (λ_ _=>[(2,.pointer (some ⟨bJ,0,none⟩)),(3,.pointer (some ⟨z+17,0,none⟩))])
  (λi vcs H'=>iR pm H H' bJ (z+17) (z+7) (z+15) dn dc (λj=>(ac j).cells) (λj=>if j<i then(ar j).cut.cells (vcs j) else(ar j).cells (v0 j))/\∀j,j<i->nX H' (vcs j) (ar j).cut.cM/\np (z+16) (vcs j))
  v0 (by decide) (by omega) (by simp) ⟨by simpa using iQ,λj aH=>absurd aH (od _)⟩ (by simp) ?_ ?_
 ·rintro i vcs qJ ad ⟨qK,Qf⟩;refine ayG al g q qK (by omega) ad (r:=ar i) (vc:=v0 i) (by simp) (iy i ad).2 ?_;intro l' sM rJ Qg rK Fh e8 aK;have aGu:=qK.k.aL.lt qK.x;refine⟨λj=>if j=i then rJ else vcs j,Qg,?_,λj aH=>?_⟩
  ·have e:(λj=>if j=i then(ar i).cut.cells rJ else if j<i then(ar j).cut.cells (vcs j) else(ar j).cells (v0 j))=(λj=>if j<i+1 then(ar j).cut.cells (if j=i then rJ else vcs j) else(ar j).cells (v0 j)):=by
    funext j;by_cases e:j=i
    ·subst e;simp
    ·by_cases e2:j<i
     ·simp[e,e2,show j<i+1 by omega]
     ·simp[e,e2,show ¬j<i+1 by omega]
   rw[<-e];exact rK
  ·by_cases e:j=i
   ·subst e;simp only[if_true];exact⟨Fh,e8.mono (by omega)⟩
   ·simp only[e,if_false];obtain⟨U,aa⟩:=Qf j (by omega);exact⟨zWa.ne U aa (by omega) aK,aa⟩
 ·rintro vcs qJ ⟨qK,Qf⟩;have Za:=qK.x;rw[uz,Y']at Za;simp[Za,-Qh,-Qi]
  refine gG (σ:=Unit) dn (λ_ _=>[(2,.pointer (some ⟨bJ,0,none⟩)),(3,.pointer (some ⟨z+17,0,none⟩))])
   (λi _ H'=>iR pm H H' bJ (z+17) (z+7) (z+15) dn dc (λj=>if j<i then(ac j).cut.cells else(ac j).cells) (λj=>if j<dc then(ar j).cut.cells (vcs j) else(ar j).cells (v0 j))/\∀j,j<dc->nX H' (vcs j) (ar j).cut.cM/\np (z+16) (vcs j))
   () (by decide) (by omega) (by simp) ⟨by simpa using qK,Qf⟩ (by simp) ?_ ?_
  ·rintro i _ sM ad ⟨rK,zZ⟩;refine ayL al g q rK (by omega) ad (c:=ac i) (by simp) ?_;intro l' CD Qg ayY aK;refine⟨(),Qg,?_,λj aH=>?_⟩
   ·have e:(λj=>if j=i then(ac i).cut.cells else if j<i then(ac j).cut.cells else(ac j).cells)=(λj=>if j<i+1 then(ac j).cut.cells else(ac j).cells):=by
     funext j;by_cases e:j=i
     ·subst e;simp
     ·by_cases e2:j<i
      ·simp[e,e2,show j<i+1 by omega]
      ·simp[e,e2,show ¬j<i+1 by omega]
    rw[<-e];exact ayY
   ·obtain⟨U,aa⟩:=zZ j aH;exact⟨zWa.ne U aa (by omega) aK,aa⟩
  ·rintro _ sM ⟨rK,zZ⟩;have ayZ:=rK.x;have Zb:=rK.r;have JC:=rK.k.aL;have oN:∀b i,fG (sl b i)=true:=λb i=>by unfold sl;split<;>rfl
   have oO:∀b i,(sl b i).cells=#[sl b i]:=λb i=>by unfold sl;split<;>rfl
   have rH:pm.may bJ=true:=g.may (by omega);obtain⟨CD,CM⟩:=bZa (sM.put bJ (.cells [sl (z+7) dn,sl (z+15) dc] (.t tyU1)));simp[ayZ,Zb,cX,c5, oN,setCells,rH,<-CM];refine bU _ _ _ ?_;have ay0:=bZv CM;have CE:K pm H CD:=by rw[CM];exact bp.put rK.k (by omega) Zb (by simp) _
   simp[ik,ay0,cX,c5];refine⟨CE,?_⟩;have d':lp.cut.aj.length=dn:=by simp[bD.cut];omega
   have ld:lp.cut.rows.length=dc:=by simp[bD.cut];omega
   have ay1:0<dn->∃L,CD.get (z+7)=some (.cells L (.n 5))/\jk L 5 dn (λj=>if j<dn then(ac j).cut.cells else(ac j).cells):=λh=>(rK.c h).imp λL h=>⟨by rw[CM,cq (by omega)];exact h.1,h.2⟩;have z1:0<dc->∃L,CD.get (z+15)=some (.cells L (.n 5))/\jk L 5 dc (λj=>if j<dc then(ar j).cut.cells (vcs j) else(ar j).cells (v0 j)):=λh=>(rK.w h).imp λL h=>⟨by rw[CM,cq (by omega)];exact h.1,h.2⟩;refine⟨_,_,rfl,?_,?_,np.sl (by omega),np.sl (by omega)⟩
   ·unfold kI;rw[d'];refine jk.Y6 ay1 λi ad=>⟨(ac i).cut,?_,by simp[ad]⟩;simp[bD.cut, show i<6 by omega,rM i (by omega)]
   ·unfold uv;rw[ld];refine jk.Y6 z1 λi ad=>⟨(ar i).cut,vcs i,?_,by simp[ad],?_,(zZ i ad).2.mono (by omega)⟩
    ·simp[bD.cut, show i<6 by omega,py i (by omega)]
    ·exact zWa.ne (zZ i ad).1 (zZ i ad).2 (b:=bJ) (by omega) λc y af h=>by rw[CM,cq af];exact h
def bZj(H:ah)(ba:Nat)(v:Value)(k w:Nat)(P:Nat->List Value->Prop):Prop:=
 ∃base cap,v=.slice base k cap/\(base=none->k=0)/\∀a,base=some a->∃b off y row,a=⟨b,off,none⟩/\ba<=b/\H.get b=some y/\rowOf y=some row/\off+k*w<=row.length/\∀i,i<k->∃cs,cX row (off+i*w) w=some cs/\P i cs
theorem bZj.sl{ba k w:Nat}{v:Value}{P:Nat->List Value->Prop}(h:bZj H ba v k w P):zWa H v k w P:=by
 obtain⟨base,cap,rfl,aD,U⟩:=h;refine⟨base,cap,rfl,λi ad=>?_⟩
 cases base with
 | none=>have:=aD rfl;omega
 | some a=>
   obtain⟨b,off,y,row,rfl,_,aa,aq,_,a8⟩:=U _ rfl;obtain⟨cs,cg,dj⟩:=a8 i ad;exact⟨b,off,y,row,cs,rfl,aa,aq,cg,dj⟩
theorem bZj.imp{ba k w:Nat}{v:Value}{P sA:Nat->List Value->Prop}(h:bZj H ba v k w P)(e:Ext H H')(aC:∀i cs,i<k->P i cs->sA i cs):bZj H' ba v k w sA:=by
 obtain⟨base,cap,rfl,aD,U⟩:=h;refine⟨base,cap,rfl,aD,λa aN=>?_⟩;obtain⟨b,off,y,row,ao,e2,bd,b1,cK,il⟩:=U a aN;exact⟨b,off,y,row,ao,e2,e _ _ bd,b1,cK,λi ad=>(il i ad).imp λcs q=>⟨q.1,aC i cs ad q.2⟩⟩
theorem bZj.bXR{ba k w:Nat}{v:Value}{P sA:Nat->List Value->Prop}(h:bZj H ba v k w P)(e:∀b y,ba<=b->H.get b=some y->H'.get b=some y)(aC:∀i cs,i<k->P i cs->sA i cs):bZj H' ba v k w sA:=by
 obtain⟨base,cap,rfl,aD,U⟩:=h;refine⟨base,cap,rfl,aD,λa aN=>?_⟩;obtain⟨b,off,y,row,ao,e2,bd,b1,cK,il⟩:=U a aN;exact⟨b,off,y,row,ao,e2,e _ _ e2 bd,b1,cK,λi ad=>(il i ad).imp λcs q=>⟨q.1,aC i cs ad q.2⟩⟩
theorem bZj.mono{ba n1 k w:Nat}{v:Value}{P sA:Nat->List Value->Prop}(h:bZj H ba v k w P)(aF:n1<=ba)(aC:∀i cs,i<k->P i cs->sA i cs):bZj H n1 v k w sA:=by
 obtain⟨base,cap,rfl,aD,U⟩:=h;refine⟨base,cap,rfl,aD,λa aN=>?_⟩;obtain⟨b,off,y,row,ao,e2,bd,b1,cK,il⟩:=U a aN;exact⟨b,off,y,row,ao,bH aF e2,bd,b1,cK,λi ad=>(il i ad).imp λcs q=>⟨q.1,aC i cs ad q.2⟩⟩
theorem bZj.put{ba k w b:Nat}{v:Value}{P sA:Nat->List Value->Prop}(h:bZj H ba v k w P)(ai:b<ba)(x:cj)(aC:∀i cs,i<k->P i cs->sA i cs):bZj (H.put b x) ba v k w sA:=by
 obtain⟨base,cap,rfl,aD,U⟩:=h;refine⟨base,cap,rfl,aD,λa aN=>?_⟩;obtain⟨c,off,y,row,ao,e2,bd,b1,cK,il⟩:=U a aN;exact⟨c,off,y,row,ao,e2,by rw[cq (by omega)];exact bd,b1,cK,λi ad=>(il i ad).imp λcs q=>⟨q.1,aC i cs ad q.2⟩⟩
theorem bZj.bVL{ba k w:Nat}{v:Value}{P:Nat->List Value->Prop}(h:zWa H v k w P)(bc:np ba v):bZj H ba v k w P:=by
 obtain⟨base,cap,rfl,eU⟩:=h.ex;refine⟨base,cap,rfl,λe=>?_,λa e=>?_⟩
 ·subst e;apply oa;intro hm;obtain⟨_,_,_,_,_,e,_⟩:=eU 0 (by omega);cases e
 ·subst e;have U:ba<=a.block:=bc.1;have aa:0<k:=bc.2;obtain⟨b,off,y,row,cs,ao,e2,bd,b1,_⟩:=eU (k-1) (by omega);cases ao;refine⟨b,off,y,row,rfl,U,e2,bd,?_,λi ad=>?_⟩
  ·have:=(Fy b1).1;have e:(k-1)*w+w=k*w:=by
    rw[<-bZz];congr 1;omega
   omega
  ·obtain⟨b',aAr,mi,cYN,gg,cZX,g2,g3,g4,g5⟩:=eU i ad;cases cZX;rw[e2]at g2;cases g2;rw[bd]at g3;cases g3;exact⟨gg,g4,g5⟩
def bZl(H:ah)(lo ad:Nat)(v:Value)(k w:Nat)(f:Nat->List Value):Prop:=
 v=.slice none 0 0/\k=0∨∃b L,lo<=b/\b<ad/\v=.slice (some ⟨b,0,none⟩) k k/\H.get b=some (.cells L (.n w))/\jk L w k f
theorem bZl.form{lo ad k w:Nat}{v:Value}{f:Nat->List Value}(h:bZl H lo ad v k w f):∃base,v=.slice base k k:=by
 rcases h with⟨rfl,rfl⟩ | ⟨b,L,_,_,rfl,_⟩
 ·exact⟨_,rfl⟩
 ·exact⟨_,rfl⟩
theorem bZl.one{lo ad k w:Nat}{v:Value}{f:Nat->List Value}(h:bZl H lo ad v k w f):fG v=true/\v.cells=#[v]:=by
 obtain⟨base,rfl⟩:=h.form;exact⟨rfl,rfl⟩
theorem bZl.pos{lo ad k w:Nat}{v:Value}{f:Nat->List Value}(h:bZl H lo ad v k w f)(ag:0<k):∃b L,lo<=b/\b<ad/\v=.slice (some ⟨b,0,none⟩) k k/\H.get b=some (.cells L (.n w))/\jk L w k f:=by
 rcases h with⟨_,rfl⟩ | h
 ·omega
 ·exact h
theorem bZl.ext{lo ad k w:Nat}{v:Value}{f:Nat->List Value}(h:bZl H lo ad v k w f)(e:Ext H H'):bZl H' lo ad v k w f:=
 h.imp id λ⟨b,L,U,aa,aq,a8,cg⟩=>⟨b,L,U,aa,aq,e _ _ a8,cg⟩
theorem bZl.mono{lo ad lo' hi' k w:Nat}{v:Value}{f:Nat->List Value}(h:bZl H lo ad v k w f)(U:lo'<=lo)(aa:ad<=hi'):bZl H lo' hi' v k w f:=
 h.imp id λ⟨b,L,cx,a2,a3⟩=>⟨b,L,bH U cx,hR a2 aa,a3⟩
theorem bZl.put{lo ad k w c:Nat}{v:Value}{f:Nat->List Value}(h:bZl H lo ad v k w f)(af:c<lo∨ad<=c)(x:cj):bZl (H.put c x) lo ad v k w f:=
 h.imp id λ⟨b,L,U,aa,aq,a8,cg⟩=>⟨b,L,U,aa,aq,by rw[cq (by omega)];exact a8,cg⟩
theorem bZl.e{lo ad k w:Nat}{v:Value}{f:Nat->List Value}{P:Nat->List Value->Prop}(h:bZl H lo ad v k w f)(zt:∀i,i<k->P i (f i)):bZj H lo v k w P:=by
 rcases h with⟨rfl,rfl⟩ | ⟨b,L,U,aa,rfl,a8,cg⟩
 ·exact⟨none,0,rfl,λ_=>rfl,λa h=>(by cases h)⟩
 ·refine⟨_,_,rfl,λh=>(by cases h),λa h=>?_⟩;cases h;exact⟨b,0,_,L,rfl,U,a8,rfl,by rw[cg.1];omega,λi ad=>⟨f i,by rw[Nat.zero_add];exact cg.row ad,zt i ad⟩⟩
theorem bZl.congr{lo ad k w:Nat}{v:Value}{f f':Nat->List Value}(h:bZl H lo ad v k w f)(bc:∀j,j<k->f' j=f j):bZl H lo ad v k w f':=
 h.imp id λ⟨b,L,U,aa,aq,a8,cg⟩=>⟨b,L,U,aa,aq,a8,cg.1,λj aH=>by rw[bc j aH];exact cg.2 j aH⟩
def bWy(w by':Nat):b2:=⟨8,(.seq (.aT [o 2 (.aM (.c (.slice none 0 0)))]) (.seq (.seq (.aT [m 3 0,o 4 (.bin .eql (.nil .jN) (.t 3) (.c (.slice none 0 0)))]) (.cond (.t 4) (.seq (.aT [o 2 (.aM (.c (.slice none 0 0)))]) .ret) .skip)) (.seq (.aT [o 5 (.buildSlice [] w 0 []),m 6 0,o 7 (.append w by' (.t 5) (.t 6)),m 2 7]) .ret))),[.slot 2]⟩
theorem bWq{X' w by':Nat}(al:Has X X' (bWy w by'))(g:cl pm H){v:Value}{k ba:Nat}{P:Nat->List Value->Prop}(aw:bZj H ba v k w P)(hw:1<=w)(ag:k<=1000)(hK:by'<=200)(zt:∀i cs,P i cs->cs.all fG=true):
 Call X pm X' [v] H λr H'=>K pm H H'/\∃f,bZl H' H.next H'.next r k w f/\∀i,i<k->P i (f i):=by
 refine Call.has al rfl ?_;obtain⟨base,cap,rfl,aD,U⟩:=aw
 cases base with
 | none=>
   obtain rfl:k=0:=aD rfl;simp[bWy];exact⟨K.refl g,λ_=>[],.inl ⟨rfl,rfl⟩⟩
 | some a=>
   obtain⟨b,off,y,row,rfl,_,aa,aq,a8,cg⟩:=U _ rfl;have av:=K.new g (.cells [] (.n w));have g1:=av.aL;have h4:(H.new (.cells [] (.n w))).get H.next=some (.cells [] (.n w)):=dT;have gN:=av.some g aa;have rH:pm.may H.next=true:=g.may (bR _);by_cases e:k=0
   ·subst e;have x7:cX row off (0*w)=some []:=by rw[CG (by omega)];simp
    simp[bWy,g.make,g.pick,fill,gN,aq,iV]at x7|-;simp[x7];exact⟨av,λ_=>[],.inr ⟨_,[],bR _,bYn _,rfl,h4,by simp,λj aH=>absurd aH (od _)⟩⟩
   ·obtain⟨l,ao,e2,bd⟩:=ayx (n:=k) (row:=row) (off:=off) (w:=w) (by omega) (λi ad=>(cg i ad).imp λ_ h=>h.1);have aO:∀i,i<k->∃cs,cX l (i*w) w=some cs/\P i cs:=λi ad=>by
     obtain⟨cs,bn,bh⟩:=cg i ad;exact⟨cs,by rw[bd i ad,bn],bh⟩
    obtain⟨f,qw,bc⟩:=jk.ex e2 aO;have mc:l.all fG=true:=by
     rw[hz];intro v aw;obtain⟨p,aC,rfl⟩:=bWh aw;have ri:p<k*w:=by omega
     have aV:p/w<k:=bYI (by rw[gw];exact ri);have Ei:=hz.1 (zt _ _ (bc _ aV));have ayE:p%w<w:=bYe _ (by omega);have mm:=(qw.2 _ aV).2 _ ayE;have e:p/w*w+p%w=p:=by rw[gw];exact bXl p w
     rw[e,hG aC]at mm;exact Ei _ (fR mm.symm)
    have vu:k*by'<=17179869184:=bH (ie ag hK) (by decide);have fm:K pm H (((H.new (.cells [] (.n w))).put H.next .dead).new (.cells l (.n w))):=bp.new (bp.put av (bR _) h4 (by simp) _) (bYx _) _;have avS:cX [] 0 0=some []:=rfl;simp[bWy,g.make,g.pick,fill,gN,aq,ao,iV,e,vu,hw,h4,rH,mc,avS,show k<=17179869184 by omega];exact⟨fm,f,.inr ⟨_,l,bYx _,bYn _,rfl,dT,qw⟩,bc⟩
end Go.Dam.C
namespace Go.Dam.C
open Go Go.Dam
variable{X:aY}{pm:Perm}{H H' cL H0:ah}{n:Nat}
structure bWz(X:aY):Prop extends bXd X where
 bYP:Has X F.bYP C.bYP
 bYQ:Has X F.bYQ C.bYQ
 bYs:Has X F.bYs C.bYs
 bYg:Has X F.bYg C.bYg
abbrev bZR:Nat:=T.cZY
abbrev bVM:Nat:=T.cZZ
def bYE(l:List fb)(i:Nat)(cs:List Value):Prop:=∃c,l[i]? = some c/\cs=c.cells
def bUr(l:List eu)(i:Nat)(cs:List Value):Prop:=∃c,l[i]? = some c/\cs=c.cells
def cYa(H:ah)(ba:Nat)(l:List di)(i:Nat)(cs:List Value):Prop:=∃r vc,l[i]? = some r/\cs=r.cells vc/\bZj H ba vc r.cM.length 2 (bYE r.cM)
def bZG(H:ah)(ba:Nat)(v:Value)(l:List di):Prop:=bZj H ba v l.length 5 (cYa H ba l)
def bZq(H:ah)(ba:Nat)(v:Value)(lp:bD):Prop:=∃v1 v2,v=.agg #[v1,v2]/\bZj H ba v1 lp.aj.length 5 (bUr lp.aj)/\bZG H ba v2 lp.rows
theorem bZG.ext{ba:Nat}{v:Value}{l:List di}(h:bZG H ba v l)(e:Ext H H'):bZG H' ba v l:=bZj.imp h e λ_ _ _ ⟨r,vc,ao,e2,bd⟩=>⟨r,vc,ao,e2,bd.imp e λ_ _ _ h=>h⟩
theorem bZG.bVN{ba:Nat}{v:Value}{l:List di}(h:bZG H ba v l)(e:∀b y,ba<=b->H.get b=some y->H'.get b=some y):bZG H' ba v l:=bZj.bXR h e λ_ _ _ ⟨r,vc,ao,e2,bd⟩=>⟨r,vc,ao,e2,bd.bXR e λ_ _ _ h=>h⟩
theorem bZG.mono{ba n1:Nat}{v:Value}{l:List di}(h:bZG H ba v l)(aF:n1<=ba):bZG H n1 v l:=bZj.mono h aF λ_ _ _ ⟨r,vc,ao,e2,bd⟩=>⟨r,vc,ao,e2,bd.mono aF λ_ _ _ h=>h⟩
theorem bZG.put{ba b:Nat}{v:Value}{l:List di}(h:bZG H ba v l)(ai:b<ba)(x:cj):bZG (H.put b x) ba v l:=bZj.put h ai x λ_ _ _ ⟨r,vc,ao,e2,bd⟩=>⟨r,vc,ao,e2,bd.put ai x λ_ _ _ h=>h⟩
theorem bZG.rows{ba:Nat}{v:Value}{l:List di}(h:bZG H ba v l):nY H v l:=zWa.imp (bZj.sl h) (λ_ _ e=>e) λ_ _ _ ⟨r,vc,ao,e2,bd⟩=>⟨r,vc,ao,e2,bd.sl⟩
theorem bZq.ext{ba:Nat}{v:Value}{lp:bD}(h:bZq H ba v lp)(e:Ext H H'):bZq H' ba v lp:=by
 obtain⟨v1,v2,rfl,U,aa⟩:=h;exact⟨v1,v2,rfl,U.imp e λ_ _ _ h=>h,aa.ext e⟩
theorem bZq.bVN{ba:Nat}{v:Value}{lp:bD}(h:bZq H ba v lp)(e:∀b y,ba<=b->H.get b=some y->H'.get b=some y):bZq H' ba v lp:=by
 obtain⟨v1,v2,rfl,U,aa⟩:=h;exact⟨v1,v2,rfl,U.bXR e λ_ _ _ h=>h,aa.bVN e⟩
theorem bZq.mono{ba n1:Nat}{v:Value}{lp:bD}(h:bZq H ba v lp)(aF:n1<=ba):bZq H n1 v lp:=by
 obtain⟨v1,v2,rfl,U,aa⟩:=h;exact⟨v1,v2,rfl,U.mono aF λ_ _ _ h=>h,aa.mono aF⟩
theorem bZq.put{ba b:Nat}{v:Value}{lp:bD}(h:bZq H ba v lp)(ai:b<ba)(x:cj):bZq (H.put b x) ba v lp:=by
 obtain⟨v1,v2,rfl,U,aa⟩:=h;exact⟨v1,v2,rfl,U.put ai x λ_ _ _ h=>h,aa.put ai x⟩
theorem bZq.lp{ba:Nat}{v:Value}{lp:bD}(h:bZq H ba v lp):ps H v lp:=by
 obtain⟨v1,v2,rfl,U,aa⟩:=h;exact⟨v1,v2,rfl,U.sl,aa.rows⟩
theorem sL.e{ba:Nat}{v:Value}{lp:bD}(h:sL H ba v lp):bZq H ba v lp:=by
 obtain⟨v1,v2,rfl,U,aa,aq,a8⟩:=h;exact⟨v1,v2,rfl,.bVL U aq,bZj.mono (.bVL aa a8) (bR _) λ_ _ _ ⟨r,vc,ao,e2,bd,b1⟩=>⟨r,vc,ao,e2,.bVL bd b1⟩⟩
def bZC(H:ah)(ba:Nat)(r:Value)(lp:bD):Prop:=∃(fQ fm:Value) (n1 fU:Nat) (vb:Nat->Value),r=.agg #[fQ,fm]/\ba<=n1/\n1<=fU/\bZl H ba n1 fQ lp.aj.length 5 (λj=>(lp.col j).cells)/\bZl H n1 fU fm lp.rows.length 5 (λj=>(lp.row j).cells (vb j))/\∀j,j<lp.rows.length->bZj H fU (vb j) (lp.row j).cM.length 2 (bYE (lp.row j).cM)
theorem bZC.old{ba:Nat}{r:Value}{lp:bD}(h:bZC H ba r lp):∃fQ fm n1,r=.agg #[fQ,fm]/\ba<=n1/\bZl H ba n1 fQ lp.aj.length 5 (λj=>(lp.col j).cells)/\bZG H n1 fm lp.rows:=by
 obtain⟨fQ,fm,n1,fU,vb,rfl,aD,bYC,U,aa,aq⟩:=h;exact⟨fQ,fm,n1,rfl,aD,U,aa.e λj aH=>⟨_,_,bD.rowAt aH,rfl,(aq j aH).mono bYC λ_ _ _ h=>h⟩⟩
theorem bZC.e{ba:Nat}{r:Value}{lp:bD}(h:bZC H ba r lp):bZq H ba r lp:=by
 obtain⟨fQ,fm,n1,rfl,aD,U,aa⟩:=h.old;exact⟨fQ,fm,rfl,U.e λi ad=>⟨_,bD.Cn ad,rfl⟩,aa.mono aD⟩
structure bYh(pm:Perm)(H0 H:ah)(bG cO ba n1 fU:Nat)(fQ fm:Value)(lp:bD)(eW:Nat->List Value):Prop where
 k:K pm H0 H
 r:H.get bG=some (.cells [.slice none 0 0,.slice none 0 0] (.t bZR))
 x:H.get cO=some (.cells [fQ,fm] (.t bZR))
 c:bZl H ba n1 fQ lp.aj.length 5 λj=>(lp.col j).cells
 w:bZl H n1 fU fm lp.rows.length 5 eW
 eF:fU<=H.next
structure bVO(H0:ah)(bG cO ba n1 fU:Nat):Prop where
 U:H0.next<=bG
 aa:bG<cO
 aq:cO<ba
 a8:ba<=n1
 cg:n1<=fU
variable{bG cO ba n1 fU:Nat}{fQ fm:Value}{lp:bD}{eW:Nat->List Value}
theorem bYh.up(s:bYh pm H0 H bG cO ba n1 fU fQ fm lp eW)(u:K pm H H'):bYh pm H0 H' bG cO ba n1 fU fQ fm lp eW where
 k:=K.trans s.k u
 r:=u.some s.k.aL s.r
 x:=u.some s.k.aL s.x
 c:=s.c.ext (u.ext s.k.aL)
 w:=s.w.ext (u.ext s.k.aL)
 eF:=bH s.eF u.next
theorem bYh.row(s:bYh pm H0 H bG cO ba n1 fU fQ fm lp eW)(o:bVO H0 bG cO ba n1 fU){PY:Nat->List Value}{i k ev:Nat}{v:Value}(ad:i<lp.rows.length)(ag:k<5)(bc:PY i=(eW i).set k v)(aF:∀j,j<lp.rows.length->j≠i->PY j=eW j){L:List Value}(hu:fm=.slice (some ⟨ev,0,none⟩) lp.rows.length lp.rows.length)(bC:H.get ev=some (.cells L (.n 5))):
 bYh pm H0 (H.put ev (.cells (L.set (i*5+k) v) (.n 5))) bG cO ba n1 fU fQ fm lp PY:=by
 obtain⟨b,L',cR,b9,e,U,aa⟩:=s.w.pos (by omega);rw[hu]at e;cases e;rw[bC]at U;cases U;have aGd:=o.U;have HH:=o.aa;have Oe:=o.aq;have cYb:=o.a8;exact⟨bp.put s.k (by omega) bC (by simp) _,by rw[cq (by omega)];exact s.r,by rw[cq (by omega)];exact s.x,s.c.put (.inr cR) _,.inr ⟨ev,_,cR,b9,hu,dX,aa.set ad ag v bc aF⟩,s.eF⟩
theorem cYc(al:bWz X)(g0:cl pm H0)(Z7:bVO H0 bG cO ba n1 fU)(s:bYh pm H0 H bG cO ba n1 fU fQ fm lp eW){i m0:Nat}(ad:i<lp.rows.length){r:di}{vc:Value}(an:eW i=r.cells vc)
 (nd:bZj H0 m0 vc r.cM.length 2 (bYE r.cM)) (hlen:r.cM.length<=1000) {R:c'}
 (dD:∀l' H' rJ,Sub [(16,.int .i64 (i:Int)),(15,.int .i64 (lp.rows.length:Int)),(2,.pointer (some ⟨bG,0,none⟩)),(3,.pointer (some ⟨cO,0,none⟩)),(14,fm)] l'->bYh pm H0 H' bG cO ba n1 fU fQ fm lp (λj=>if j=i then r.cells rJ else eW j)->
  bZj H' fU rJ r.cM.length 2 (bYE r.cM)->(∀b y,fU<=b->H.get b=some y->H'.get b=some y)->R .normal l' H'):
 wp X pm (.code (.seq (.aT [m 18 16,o 19 (.ho 5 (.t 14) (.t 16)),o 20 (.load true 5 (.t 19)),o 5 (.alloc bVM [(.string ⟨#[]⟩),(.int .i64 (.ofNat 0)),(.slice none 0 0),(.string ⟨#[]⟩),(.string ⟨#[]⟩)]),m 4 18,⟨none,none,.store 5 (.t 5) (.t 20)⟩]) C.bVP)) [(17,.bool true),(16,.int .i64 (i:Int)),(15,.int .i64 (lp.rows.length:Int)),(2,.pointer (some ⟨bG,0,none⟩)),(3,.pointer (some ⟨cO,0,none⟩)),(14,fm)] H [] R:=by
 have g:=s.k.aL;have aGd:=Z7.U;have HH:=Z7.aa;have Oe:=Z7.aq;have cYb:=Z7.a8;have cYO:=Z7.cg;have eT:=g.lt s.x;have eF:=s.eF;obtain⟨ev,L,cR,b9,hu,bC,mV⟩:=s.w.pos (by omega);have cK:cX L (i*5) 5=some [aW r.name,.int .i64 r.kind,vc,aW r.rhs,aW r.Ff]:=by rw[mV.row ad,an];rfl
 obtain⟨base,cap,e,_⟩:=id nd;subst e;obtain⟨q,aV⟩:=bZa (H.next);obtain⟨H1,cw⟩:=bZa ((H.new (.cells [.string ⟨#[]⟩,.int .i64 0,.slice none 0 0,.string ⟨#[]⟩,.string ⟨#[]⟩] (.t bVM))).put q (.cells [aW r.name,.int .i64 r.kind,.slice base r.cM.length cap,aW r.rhs,aW r.Ff] (.t bVM)));have av:=bYF g cw aV;have g1:=av.aL;have lK:=bZv cw;have qp:=bXb aV;have cYd:pm.may q=true:=g.may (by omega);have cYP:=bXO cw aV;have kR:=av.some g s.x;have FD:=av.some g bC;obtain⟨z,bl⟩:=bZa (H1.next);have bE:K pm H1 (H1.up 9):=(K.refl g1).up 9;have mS:=λj=>(by rw[bl];exact g1.none j:(H1.up 9).get (z+j)=none);have FA:=(by rw[bl];exact g1.fo:(H1.up 9).get z=none);rw[hu]at kR;simp[hu,bC,ad,cK,g.pick,g.make,ptr,c5,<-aV,qp,cYd,setCells,<-cw];refine eg.of g1.lo rfl ?_;rw[<-bl];simp[dt,mS,FA,kR,lK];refine bZk bE.aL (vs:=[.slice base r.cM.length cap]) (by simp[mS]) (λpm' bS=>bWq (w:=2) (by':=24) al.bYs bS (nd.imp ((K.trans s.k (K.trans av bE)).ext g0) λ_ _ _ h=>h) (by decide) hlen (by decide) (λi cs ⟨c,_,e⟩=>by rw[e];rfl)) ?_;rintro rJ aJ aI ⟨f,qw,bc⟩;have g2:=aI.aL;have e0:K pm H1 aJ:=K.trans bE aI;have dW:=e0.some g1 kR;have kz:=e0.some g1 FD;have ot:=aI.res g1;obtain⟨aGh,e⟩:=qw.form;subst e;have iS:setCells L (i*5+2) [.slice aGh r.cM.length r.cM.length]=some (L.set (i*5+2) (.slice aGh r.cM.length r.cM.length)):=setCells_one (mV.lt ad (show 2<5 by decide));obtain⟨bN,iO⟩:=bZa (aJ.put ev (.cells (L.set (i*5+2) (.slice aGh r.cM.length r.cM.length)) (.n 5)));have ya:=λq=>jh (lo:=pm.lo) (ok:=pm.ok) (o:=q) (b:=ev) (by have:=g0.lo;omega);have iM:ev<z:=by omega
 have bWr:cO<z:=by omega
 have cYe:q<z:=by omega
 rw[<-bl]at ot;simp[ot,ad,iS,kz,ya,<-iO,dx,dm,eJ,ez,gI,iM,bWr,cYe];have s2:bYh pm H0 bN bG cO ba n1 fU fQ fm lp (λj=>if j=i then r.cells (.slice aGh r.cM.length r.cM.length) else eW j):=by
  rw[iO];exact(s.up (K.trans av e0)).row Z7 ad (by decide) (by simp[an,di.cells]) (λj _ h=>by simp[h]) hu kz
 refine dD _ _ _ (by simp[hu]) s2 ?_ λb y ai h=>?_
 ·have aq:bZl bN (H1.up 9).next aJ.next (.slice aGh r.cM.length r.cM.length) r.cM.length 2 f:=by
   rw[iO];exact qw.put (.inl (by show ev<H1.next+9;omega)) _
  exact(aq.e bc).mono (by show fU<=H1.next+9;omega) λ_ _ _ h=>h
 ·rw[iO,cq (by omega)];exact(K.trans av e0).some g h
theorem bWW(al:bWz X)(g:cl pm H){v:Value}{lp:bD}{ba:Nat}(aw:bZq H ba v lp)(af:lp.aj.length<=1000)(an:lp.rows.length<=1000)(Fh:∀i,i<lp.rows.length->(lp.row i).cM.length<=1000):
 Call X pm F.bYg [v] H λr H'=>K pm H H'/\bZC H' H.next r lp:=by
 refine Call.h6 al.bYg rfl λQ bU=>?_;obtain⟨v1,v2,rfl,U,aa⟩:=aw;obtain⟨bZW,bZX,ao,_⟩:=id U;obtain⟨dG,dE,e2,_⟩:=id aa;subst ao e2;obtain⟨bJ,zq0⟩:=bZa (H.next);obtain⟨H1,cw⟩:=bZa (H.new (.cells [.slice bZW lp.aj.length bZX,.slice dG lp.rows.length dE] (.t bZR)));have av:=bZi g cw;have g1:=av.aL;have h4:=bZp cw zq0;obtain⟨bG,lk⟩:=bZa (H1.next);obtain⟨aJ,ee⟩:=bZa (H1.new (.cells [.slice none 0 0,.slice none 0 0] (.t bZR)));have aI:=bZi g1 ee;have g2:=aI.aL;have RI:=bZp ee lk;have ayQ:=aI.some g1 h4;have h8:=av.trans aI;have n1:=bV cw zq0;have fU:=bV ee lk;obtain⟨z,bl⟩:=bZa (aJ.next);have bE:K pm aJ (aJ.up 9):=(K.refl g2).up 9;have mS:=λj=>(by rw[bl];exact g2.none j:(aJ.up 9).get (z+j)=none);have FA:=(by rw[bl];exact g2.fo:(aJ.up 9).get z=none);obtain⟨fL,fc⟩:=bZa ((aJ.up 9).put (z+4) (.cells [.slice none 0 0,.slice none 0 0] (.t bZR)));have hD:K pm aJ fL:=by rw[fc];exact bp.fill bE (by omega) (mS 4) (by show z+4<aJ.next+9;omega) _
 have TG:fL.next=z+9:=by rw[fc,bl];rfl
 have oP:∀j,j≠4->fL.get (z+j)=none:=λj aH=>by rw[fc,cq (by omega)];exact mS j
 have YY:fL.get (z+4)=some (.cells [.slice none 0 0,.slice none 0 0] (.t bZR)):=by rw[fc];exact dX
 have zV:=hD.aL;have ayT:=hD.some g2 ayQ;simp[g.pick,g.make,ptr,<-zq0,<-cw,  <-lk,<-ee,-bXs];refine eg.of g2.lo rfl ?_;rw[<-bl];simp[dt,mS,FA,ayQ,Perm.make,Perm.pick,ptr,<-fc,-bXs];refine bZk zV (vs:=[.slice bZW lp.aj.length bZX]) (by simp[oP]) (λpm' bS=>bWq (w:=5) (by':=72) al.bYP bS (U.imp ((h8.trans hD).ext g) λ_ _ _ h=>h) (by decide) af (by decide) (λi cs ⟨c,_,e⟩=>by rw[e];rfl)) ?_;rintro fQ bN aQ ⟨f1,cy,sn⟩;have g3:=aQ.aL;have jH:=K.trans h8 (K.trans hD aQ);have YI:=aQ.next;have uy:∀j,j<9->j≠4->bN.get (z+j)=none:=λj aH j8=>(aQ.get _ (by omega)).trans (oP j j8);simp[-bXs];refine bZk g3 (vs:=[.slice dG lp.rows.length dE]) (by simp[uy]) (λpm' bS=>bWq (w:=5) (by':=80) al.bYQ bS (aa.imp (jH.ext g) λ_ _ _ h=>h) (by decide) an (by decide) (λi cs ⟨r,vc,_,e,base,cap,bd,_⟩=>by rw[e,bd];rfl)) ?_;rintro fm cp bt ⟨f2,dd,Py⟩;have g4:=bt.aL;have ji:=K.trans aQ bt;have jY:=K.trans jH bt;have aGm:=bt.next;have DH:∀j,j<9->j≠4->cp.get (z+j)=none:=λj aH j8=>(bt.get _ (by omega)).trans (uy j aH j8);have bUN:=ji.some zV YY;obtain⟨cR,e⟩:=cy.form;subst e;obtain⟨b9,e⟩:=dd.form;subst e;have cYQ:z+4<cp.next:=by omega
 have x9:=λo=>jh (lo:=pm.lo) (ok:=pm.ok) (o:=o) (b:=z+4) (by have:=g2.lo;omega);obtain⟨fV,fg⟩:=bZa (cp.put (z+4) (.cells [.slice cR lp.aj.length lp.aj.length,.slice b9 lp.rows.length lp.rows.length] (.t bZR)));have cYf:bJ<z:=by omega
 have bVQ:gp [z+4] [bJ]=true:=kS (by omega);simp[DH,bUN,setCells,c5,x9,<-fg,bVQ,dx,dm,eJ,ez,gI,cYf,-bXs];have sK:∀j,j<lp.rows.length->∃v,f2 j=(lp.row j).cells v/\bZj H ba v (lp.row j).cM.length 2 (bYE (lp.row j).cM):=λj aH=>by
  obtain⟨r,vc,ao,e2,bd⟩:=Py j aH;rw[bD.rowAt aH]at ao;cases ao;exact⟨vc,e2,bd⟩
 obtain⟨v0,iy⟩:∃v0:Nat->Value,∀j,j<lp.rows.length->f2 j=(lp.row j).cells (v0 j)/\bZj H ba (v0 j) (lp.row j).cM.length 2 (bYE (lp.row j).cM):=by
  have:∀j,∃v,j<lp.rows.length->f2 j=(lp.row j).cells v/\bZj H ba v (lp.row j).cM.length 2 (bYE (lp.row j).cM):=λj=>by
   by_cases aH:j<lp.rows.length
   ·obtain⟨v,q⟩:=sK j aH;exact⟨v,λ_=>q⟩
   ·exact⟨.bool true,λh=>absurd h aH⟩
  exact⟨λj=>(this j).choose,λj=>(this j).choose_spec⟩
 have o:bVO H bG (z+4) fL.next bN.next cp.next:=⟨by omega,by omega,by omega,YI,aGm⟩;have iQ:bYh pm H fV bG (z+4) fL.next bN.next cp.next (.slice cR lp.aj.length lp.aj.length) (.slice b9 lp.rows.length lp.rows.length) lp (λj=>(lp.row j).cells (v0 j)):=by
  rw[fg];refine⟨bp.put jY (by omega) bUN (by simp) _,?_,dX,?_,?_,bR _⟩
  ·rw[cq (by omega)];exact(K.trans hD ji).some g2 RI
  ·refine((cy.ext (bt.ext g3)).congr λj aH=>?_).put (.inl (by omega)) _;obtain⟨c,ao,e2⟩:=sn j aH;rw[bD.Cn aH]at ao;cases ao;exact e2.symm
  ·exact(dd.congr λj aH=>(iy j aH).1.symm).put (.inl (by omega)) _
 have sc:=iQ.x;simp[sc,-bVR,-bVS]
 refine gG (σ:=Nat->Value) lp.rows.length (λ_ _=>[(2,.pointer (some ⟨bG,0,none⟩)),(3,.pointer (some ⟨z+4,0,none⟩)),(14,.slice b9 lp.rows.length lp.rows.length)])
  (λi vb H'=>bYh pm H H' bG (z+4) fL.next bN.next cp.next (.slice cR lp.aj.length lp.aj.length) (.slice b9 lp.rows.length lp.rows.length) lp (λj=>(lp.row j).cells (if j<i then vb j else v0 j))/\
   ∀j,j<i->bZj H' cp.next (vb j) (lp.row j).cM.length 2 (bYE (lp.row j).cM))
  (λ_=>.bool true) (by decide) (by omega) (by simp) ⟨by simpa using iQ,λj aH=>absurd aH (od _)⟩ (by simp) ?_ ?_
 ·rintro i vb qJ ad ⟨qK,Qf⟩;refine cYc al g o qK ad (r:=lp.row i) (vc:=v0 i) (m0:=ba) (by simp) (iy i ad).2 (Fh i ad) ?_;intro l' sM rJ Qg rK dp aK;refine⟨λj=>if j=i then rJ else vb j,Qg,?_,λj aH=>?_⟩
  ·have e:(λj=>if j=i then(lp.row i).cells rJ else(lp.row j).cells (if j<i then vb j else v0 j))=(λj=>(lp.row j).cells (if j<i+1 then(if j=i then rJ else vb j) else v0 j)):=by
    funext j;by_cases e:j=i
    ·subst e;simp
    ·by_cases e2:j<i
     ·simp[e,e2,show j<i+1 by omega]
     ·simp[e,e2,show ¬j<i+1 by omega]
   rw[<-e];exact rK
  ·by_cases e:j=i
   ·subst e;simpa using dp
   ·simp only[e,if_false];exact(Qf j (by omega)).bXR aK λ_ _ _ h=>h
 ·rintro vb sM ⟨rK,zZ⟩;have ayZ:=rK.x;have Zb:=rK.r;have oj:pm.may bG=true:=g.may (by omega);obtain⟨CD,CM⟩:=bZa (sM.put bG (.cells [.slice cR lp.aj.length lp.aj.length,.slice b9 lp.rows.length lp.rows.length] (.t bZR)));simp[ayZ,Zb,cX,c5,setCells,oj,<-CM];refine bU _ _ _ ?_;have ay0:=bZv CM;have CE:K pm H CD:=by rw[CM];exact bp.put rK.k (by omega) Zb (by simp) _
  simp[ik,ay0,cX,c5];have aGd:=o.U;have HH:=o.aa;have Oe:=o.aq;refine⟨CE,_,_,bN.next,cp.next,vb,rfl,by omega,aGm,?_,?_,λj aH=>?_⟩
  ·have:=(rK.c.put (c:=bG) (.inl (by omega)) (.cells [.slice cR lp.aj.length lp.aj.length,.slice b9 lp.rows.length lp.rows.length] (.t bZR))).mono (lo':=H.next) (hi':=bN.next) (by omega) (bR _);rw[<-CM]at this;exact this
  ·have cg:=(rK.w.put (c:=bG) (.inl (by omega)) (.cells [.slice cR lp.aj.length lp.aj.length,.slice b9 lp.rows.length lp.rows.length] (.t bZR)));rw[<-CM]at cg;exact cg.congr λj aH=>by simp[aH]
  ·have dj:=((zZ j aH).put (b:=bG) (by omega) (.cells [.slice cR lp.aj.length lp.aj.length,.slice b9 lp.rows.length lp.rows.length] (.t bZR)) λ_ _ _ h=>h);rw[<-CM]at dj;exact dj
end Go.Dam.C
namespace Go.Dam.C
section
variable{α:Type}{f:α->Option α}
theorem bXX:∀{k j:Nat} {a b c:α},oT f k a=some b->oT f j a=some c->f b=none->f c=none->b=c
 | 0,0,a,b,c,U,aa,_,_=>by cases U;cases aa;rfl
 | 0,j+1,a,b,c,U,aa,ai,_=>by
   cases U;rw[oT,ai]at aa;cases aa
 | k+1,0,a,b,c,U,aa,_,af=>by
   cases aa;rw[oT,af]at U;cases U
 | k+1,j+1,a,b,c,U,aa,ai,af=>by
   rw[oT]at U aa
   cases e:f a with
   | none=>rw[e]at U;cases U
   | some a'=>
     rw[e]at U aa;exact bXX U aa ai af
theorem bUa:∀{k:Nat} {a b c:α},oT f k a=some b->f b=some c->oT f (k+1) a=some c
 | 0,a,b,c,h,e=>by cases h;rw[oT,e];rfl
 | k+1,a,b,c,h,e=>by
   rw[oT]at h|-
   cases ao:f a with
   | none=>rw[ao]at h;cases h
   | some a'=>
     rw[ao]at h;exact bUa h e
end
def bWB(lp:bD)(T:b8):Prop:=wC lp.aX (hE lp) T/\∃k,oT (rO lp.aX) k lp.fA=some T
def bXu(lp:bD)(T:b8):Prop:=uG lp.aX (hE lp) T/\∃Uf k j,oT (rO lp.aX) k lp.fA=some Uf/\uC lp.aX Uf=none/\oT (pE lp.aX lp.cs) j Uf=some T
abbrev bZL(lp:bD)(a:iz):Prop:=CZ lp (bWB lp) (bXu lp) a
theorem bVu{lp:bD}(h:iA lp)(hm:lp.dP=true):Kh lp (bWB lp) (bXu lp) 2000 where
 t1:=(runs h hm).t1
 Ki:=(runs h hm).Ki
 s1:=⟨(runs h hm).s1,0,rfl⟩
 g1:=λT bK=>(runs h hm).g1 T bK.1
 n1:=λT dY bK e=>⟨(runs h hm).n1 T dY bK.1 e,bK.2.choose+1,bUa bK.2.choose_spec e⟩
 s2:=λT bK e=>⟨(runs h hm).s2 T bK.1 e,T,bK.2.choose,0,bK.2.choose_spec,e,rfl⟩
 g2:=λT bK=>(runs h hm).g2 T bK.1
 fU:=λT dY bK e=>by
  obtain⟨U,Uf,k,j,aa,aq,a8⟩:=bK;exact⟨(runs h hm).fU T dY U e,Uf,k,j+1,aa,aq,bUa a8 e⟩
 eH:=λT bK=>(runs h hm).eH T bK.1
theorem bZL.s{lp:bD}{a:iz}(h:bZL lp a):CZ lp (wC lp.aX (hE lp)) (uG lp.aX (hE lp)) a:=by
 cases h with
 | inf T a U aa aq=>exact .inf T a U.1 aa aq
 | Q1 T c U aa aq=>exact .Q1 T c U.1 aa aq
 | opt T U aa=>exact .opt T U.1 aa
theorem bUb{P:cr}{T:b8}(h:uC P T=none):rO P T=none:=by unfold rO;rw[h]
theorem bUc{P:cr}{T:b8}{a:Nat}(h:uC P T=some a)(aa:sP P T a (off P T.v (T.rows a))=none):rO P T=none:=by unfold rO;rw[h];simp only[aa]
theorem bWC{P:cr}{c:Nat->Rat}{T:b8}(h:enters P c T=none):pE P c T=none:=by unfold pE;rw[h]
theorem bWD{P:cr}{c:Nat->Rat}{T:b8}{k:Nat}(h:enters P c T=some k)(aa:(fv P T k (gl P c T k) P.m).gH=none):pE P c T=none:=by unfold pE;rw[h];simp only[aa]
theorem bXu.one{lp:bD}{T dY:b8}(h:bXu lp T)(gJ:bXu lp dY)(e:pE lp.aX lp.cs T=none)(bw:pE lp.aX lp.cs dY=none):T=dY:=by
 obtain⟨_,A,k,j,cx,a2,a3⟩:=h;obtain⟨_,B,k',MX,cR,b9,fK⟩:=gJ;obtain rfl:=bXX cx cR (bUb a2) (bUb b9);exact bXX a3 fK e bw
theorem bWB.no{lp:bD}{T dY:b8}{a:Nat}(h:bWB lp T)(aa:uC lp.aX T=some a)(aq:sP lp.aX T a (off lp.aX T.v (T.rows a))=none)(gJ:bXu lp dY):False:=by
 obtain⟨_,k,cx⟩:=h;obtain⟨_,B,k',MX,cR,b9,fK⟩:=gJ;obtain rfl:=bXX cx cR (bUc aa aq) (bUb b9);rw[aa]at b9;cases b9
theorem bZL.uniq{lp:bD}{a b:iz}(h:bZL lp a)(g:bZL lp b):a=b:=by
 cases h with
 | inf T i U aa aq=>
   cases g with
   | inf dY iq g1 g2 g3=>
     obtain⟨_,k,cx⟩:=U;obtain⟨_,k',cR⟩:=g1;obtain rfl:=bXX cx cR (bUc aa aq) (bUc g2 g3);rw[aa]at g2;cases g2;rfl
   | Q1 dY c g1 g2 g3=>exact(U.no aa aq g1).elim
   | opt dY g1 g2=>exact(U.no aa aq g1).elim
 | Q1 T c U aa aq=>
   cases g with
   | inf dY iq g1 g2 g3=>exact(g1.no g2 g3 U).elim
   | Q1 dY ek g1 g2 g3=>
     obtain rfl:=U.one g1 (bWD aa aq) (bWD g2 g3);rw[aa]at g2;cases g2;rfl
   | opt dY g1 g2=>
     obtain rfl:=U.one g1 (bWD aa aq) (bWC g2);rw[aa]at g2;cases g2
 | opt T U aa=>
   cases g with
   | inf dY iq g1 g2 g3=>exact(g1.no g2 g3 U).elim
   | Q1 dY ek g1 g2 g3=>
     obtain rfl:=U.one g1 (bWC aa) (bWD g2 g3);rw[aa]at g2;cases g2
   | opt dY g1 g2=>
     obtain rfl:=U.one g1 (bWC aa) (bWC g2);rfl
theorem bZL.kQ{lp:bD}(h:iA lp)(hm:lp.dP=true){c:iz}(aG:bZL lp c):C.kQ lp c=true/\c.ok:=aym h hm aG.s
theorem bZL.len{lp:bD}(h:iA lp)(hm:lp.dP=true){c:iz}(aG:bZL lp c)(aa:c.st=2):(jj (gR lp c.d false)).length<1000000:=ayo h hm aG.s aa
end Go.Dam.C
namespace Go.Dam.C
open Go Go.Dam
variable{X:aY}{pm:Perm}{H H' cL H0:ah}{n:Nat}
structure bWi(X:aY):Prop extends bWz X where
 bYG:Has X F.bYG C.bYG
 bYH:Has X F.bYH C.bYH
abbrev bZY:Nat:=T.cYg
abbrev bXV:Nat:=T.cYh
abbrev bVj:Value:=.agg #[.int .i64 0,.string ⟨#[]⟩,.slice none 0 0,.slice none 0 0,.slice none 0 0]
def bZK(H:ah)(p ba:Nat)(lp:bD):Prop:=∃fQ fm,H.get p=some (.cells [fQ,fm] (.t bXV))/\bZq H ba (.agg #[fQ,fm]) lp
theorem bZK.ext{p ba:Nat}{lp:bD}(h:bZK H p ba lp)(e:Ext H H'):bZK H' p ba lp:=by
 obtain⟨fQ,fm,U,aa⟩:=h;exact⟨fQ,fm,e _ _ U,aa.ext e⟩
theorem bZK.mono{p ba n1:Nat}{lp:bD}(h:bZK H p ba lp)(e:n1<=ba):bZK H p n1 lp:=by
 obtain⟨fQ,fm,U,aa⟩:=h;exact⟨fQ,fm,U,aa.mono e⟩
theorem bZK.put{p c ba:Nat}{lp:bD}(h:bZK H p ba lp)(af:c<ba)(aC:c≠p)(x:cj):bZK (H.put c x) p ba lp:=by
 obtain⟨fQ,fm,U,aa⟩:=h;exact⟨fQ,fm,by rw[cq (Ne.symm aC)];exact U,aa.put (by omega) x⟩
structure bZw(pm:Perm)(p:Nat)(H H':ah):Prop where
 aL:cl pm H'
 next:H.next<=H'.next
 get:∀b,b<H.next->b≠p->H'.get b=H.get b
 eE:∀b o,H.get b=some (.eE o)->H'.get b=some (.eE o)
theorem K.bVk{p:Nat}(k:K pm H H'):bZw pm p H H':=⟨k.aL,k.next,λb ai _=>k.get b ai,k.eE⟩
theorem bZw.trans{p:Nat}(k:bZw pm p H H')(l:bZw pm p H' cL):bZw pm p H cL:=⟨l.aL,bH k.next l.next,λb ai aF=>(l.get b (hR ai k.next) aF).trans (k.get b ai aF),λb o h=>l.eE b o (k.eE b o h)⟩
theorem bZw.put{p:Nat}{cs:List Value}{z:dI}(g:cl pm H)(aK:H.get p=some (.cells cs z))(x:cj):bZw pm p H (H.put p x):=by
 have u:=bp.put (n:=p) (.refl g) (bR _) aK (by simp) x;exact⟨u.aL,u.next,λb _ aF=>cq aF,u.eE⟩
theorem bZw.some{p b:Nat}{y:cj}(k:bZw pm p H H')(g:cl pm H)(aF:b≠p)(h:H.get b=some y):H'.get b=some y:=(k.get b (g.lt h) aF).trans h
theorem bZw.up{p:Nat}(k:bZw pm p H H')(aF:n<=p)(rj:n<=H.next):bp pm n H H':=⟨k.aL,k.next,λb ai=>k.get b (by omega) (by omega),k.eE⟩
theorem bZw.fin{p c:Nat}{cs:List Value}{z:dI}(k:bZw pm p H H')(af:H.next<=c)(aK:H'.get c=Option.some (.cells cs z))(x:cj):bZw pm p H (H'.put c x):=by
 have u:=bp.put (n:=0) (.refl k.aL) (Nat.zero_le _) aK (by simp) x;exact⟨u.aL,bH k.next u.next,λb ai aF=>by rw[cq (by omega)];exact k.get b ai aF,λb o h=>u.eE b o (k.eE b o h)⟩
theorem cZN(al:bWi X)(g:cl pm H){v:Value}{lp:bD}{ba:Nat}(aw:bZq H ba v lp)(wu:iA lp)(Fh:∀i,i<lp.rows.length->(lp.row i).cM.length<=1000):
 Call X pm F.bYG [v] H λr H'=>K pm H H'/\(lp.dP=false/\r=.tuple #[.pointer none,bVj,.bool false]∨lp.dP=true/\∃p a u,r=.tuple #[.pointer (some ⟨p,0,none⟩),u,.bool true]/\H.next<=p/\bZK H' p (p+1) lp/\bZH H' H.next u a/\bZL lp a):=by
 refine Call.h6 al.bYG rfl λQ bU=>?_;have iy:=aw;obtain⟨v1,v2,rfl,U,aa⟩:=aw;obtain⟨bZW,bZX,ao,_⟩:=id U;obtain⟨dG,dE,e2,_⟩:=id aa;subst ao e2;obtain⟨bJ,zq0⟩:=bZa (H.next);obtain⟨H1,cw⟩:=bZa (H.new (.cells [.slice bZW lp.aj.length bZX,.slice dG lp.rows.length dE] (.t bZR)));have av:=bZi g cw;have g1:=av.aL;have h4:=bZp cw zq0;obtain⟨cO,Cu⟩:=bZa (H1.next);obtain⟨aJ,ee⟩:=bZa (H1.new (.cells [.int .i64 0,.string ⟨#[]⟩,.slice none 0 0,.slice none 0 0,.slice none 0 0] (.t bZY)));have aI:=bZi g1 ee;have g2:=aI.aL;have bWn:=bZp ee Cu;have ayQ:=aI.some g1 h4;have h8:=av.trans aI;have n1:=bV cw zq0;have fU:=bV ee Cu;have ata:pm.may cO=true:=g.may (by omega);simp[g.pick,g.make,ptr,<-zq0,<-cw,  <-Cu,<-ee,ayQ,cX,c5,-bVT,-bVU];refine aR.bZb (vs:=[.agg #[.slice bZW lp.aj.length bZX,.slice dG lp.rows.length dE]]) (bVt al.tohj g2 wu.ok (iy.lp.ext (h8.ext g)) (λhm=>bVu wu hm)) ?_;rintro dh bN ⟨aQ,aq⟩;have g3:=aQ.aL;have jH:=h8.trans aQ;have bWo:=aQ.some g2 bWn;have Pt:=aQ.some g2 ayQ;have YI:=aQ.next;obtain⟨aIO,Rf⟩:=bZa (bN.next);have bUO:pm.may aIO=true:=g3.may (by omega);have abi:=bXb Rf
 rcases aq with⟨hm,rfl⟩ | ⟨hm,a,u,rfl,hu,aG⟩
 ·obtain⟨cp,nZ⟩:=bZa ((bN.new (.cells [.int .i64 0,.string ⟨#[]⟩,.slice none 0 0,.slice none 0 0,.slice none 0 0] (.t bZY))).put aIO (.cells [.int .i64 0,.string ⟨#[]⟩,.slice none 0 0,.slice none 0 0,.slice none 0 0] (.t bZY)));have bt:=bYF g3 nZ Rf;have bXc:=bt.some g3 bWo;obtain⟨cV,r5⟩:=bZa (cp.put cO (.cells [.int .i64 0,.string ⟨#[]⟩,.slice none 0 0,.slice none 0 0,.slice none 0 0] (.t bZY)));have cd:K pm H cV:=by rw[r5];exact bp.put (K.trans jH bt) (by omega) bXc (by simp) _
  have qH:=bZv r5;simp[g3.pick,g3.make,ptr,c5,<-Rf,abi,bUO,setCells,<-nZ,bXc,ata,<-r5,fill,-bVV];refine bU _ _ _ ?_;simp[ik,qH,cX,c5,hm];exact cd
 ·obtain⟨df,dW,gZ,rfl,kR,jw,jP⟩:=hu;obtain⟨PI,PJ,ao,_⟩:=kR.1.ex;obtain⟨PK,PL,e2,_⟩:=jw.1.ex;obtain⟨PM,PN,bd,_⟩:=jP.1.ex;subst ao e2 bd;have hu:bZH bN aJ.next (.agg #[.int .i64 a.st,aW a.val,.slice PI a.x.length PJ,.slice PK a.d.length PL,.slice PM a.r.length PN]) a:=⟨_,_,_,rfl,kR,jw,jP⟩;obtain⟨cp,nZ⟩:=bZa ((bN.new (.cells [.int .i64 0,.string ⟨#[]⟩,.slice none 0 0,.slice none 0 0,.slice none 0 0] (.t bZY))).put aIO (.cells [.int .i64 a.st,aW a.val,.slice PI a.x.length PJ,.slice PK a.d.length PL,.slice PM a.r.length PN] (.t bZY)));have bt:=bYF g3 nZ Rf;have g4:=bt.aL;have NC:=bXO nZ Rf;have cYi:=bZv nZ;have bXc:=bt.some g3 bWo;have bVW:=bt.some g3 Pt;have jY:=K.trans jH bt;obtain⟨z,bl⟩:=bZa (cp.next);have bE:K pm cp (cp.up 8):=(K.refl g4).up 8;have mS:=λj=>(by rw[bl];exact g4.none j:(cp.up 8).get (z+j)=none);have FA:=(by rw[bl];exact g4.fo:(cp.up 8).get z=none);simp[g3.pick,g3.make,ptr,c5,<-Rf,abi,bUO,setCells,<-nZ];refine eg.of g4.lo rfl ?_;rw[<-bl];simp[dt,mS,FA,bVW,cYi,cX,c5];refine bZk bE.aL (vs:=[.agg #[.slice bZW lp.aj.length bZX,.slice dG lp.rows.length dE]]) (by simp[mS]) (λpm' bS=>bWW al.tobWz bS (iy.ext ((K.trans jY bE).ext g)) (by have:=wu.n;omega) (by have:=wu.m;omega) Fh) ?_;rintro vN cV cd bYf;have g5:=cd.aL;have ki:=K.trans bE cd;have ot:=cd.res g4;rw[<-bl]at ot;have aGn:(cp.up 8).next=z+8:=by rw[bl];rfl
  rw[aGn]at bYf;obtain⟨fQ,fm,yS,rfl,kA,cy,dd⟩:=bYf.old;obtain⟨cR,e⟩:=cy.form;subst e;obtain⟨b9,OA,e,_⟩:=id dd;subst e;have cZy:=cd.next;obtain⟨ep,mA⟩:=bZa (cV.put (z+4) (.cells [.slice cR lp.aj.length lp.aj.length,.slice b9 lp.rows.length OA] (.t bXV)));have cv:K pm cp ep:=by rw[mA];exact bp.fill ki (by omega) (ot 4 (by decide)) (by omega) _
  have g6:=cv.aL;have bXP:=cv.some g4 bXc;have cYj:ep.get (z+4)=some (.cells [.slice cR lp.aj.length lp.aj.length,.slice b9 lp.rows.length OA] (.t bXV)):=by rw[mA];exact dX
  have bUP:∀j,j<8->j≠4->ep.get (z+j)=none:=λj aH j8=>by rw[mA,cq (by omega)];exact ot j aH
  obtain⟨hM,TM⟩:=bZa (ep.put cO (.cells [.int .i64 a.st,aW a.val,.slice PI a.x.length PJ,.slice PK a.d.length PL,.slice PM a.r.length PN] (.t bZY)));have ck:bJ<z:=by omega
  have eT:cO<z:=by omega
  have lf:aIO<z:=by omega
  have x9:=λo=>jh (lo:=pm.lo) (ok:=pm.ok) (o:=o) (b:=cO) (by have:=g.lo;omega);have bVQ:gp [z+4] [aIO]=true:=kS (by omega);simp[ot,fill,setCells,c5,Perm.make,Perm.pick,ptr,<-mA,bUP,bXP,x9,<-TM,bVQ,dx,dm,eJ,ez,gI,ck,eT,lf];refine⟨by rw[TM,cq (by omega)];exact bUP 7 (by decide) (by decide),?_⟩;have dJ:K pm H hM:=by rw[TM];exact bp.put (K.trans jY cv) (by omega) bXP (by simp) _
  have cYk:=bZv TM;refine bU _ _ _ ?_;simp[ik,cYk,cX,c5,hm];refine⟨dJ,z+4,a,_,⟨rfl,rfl⟩,by omega,⟨_,_,by rw[TM,cq (by omega)];exact cYj,?_⟩,?_,aG⟩
  ·have h:=(((bYf.e).put (b:=z+4) (by omega) (.cells [.slice cR lp.aj.length lp.aj.length,.slice b9 lp.rows.length OA] (.t bXV))).put (b:=cO) (by omega) (.cells [.int .i64 a.st,aW a.val,.slice PI a.x.length PJ,.slice PK a.d.length PL,.slice PM a.r.length PN] (.t bZY))).mono (n1:=z+4+1) (by omega);rw[<-mA,<-TM]at h;exact h
  ·have h:=((hu.ext ((K.trans bt cv).ext g3)).put (c:=cO) (by omega) (.cells [.int .i64 a.st,aW a.val,.slice PI a.x.length PJ,.slice PK a.d.length PL,.slice PM a.r.length PN] (.t bZY))).mono (n1:=H.next) (by omega);rw[<-TM]at h;exact h
def bWl(pm:Perm)(p ba:Nat)(H:ah)(lp:bD)(r:Value)(H':ah):Prop:=
 lp.dP=false/\K pm H H'/\r=.tuple #[bVj,.bool false]∨lp.dP=true/\bZw pm p H H'/\bZK H' p ba lp/\∃a u,r=.tuple #[u,.bool true]/\bZH H' H.next u a/\bZL lp a
theorem cZE(al:bWi X)(g:cl pm H){p ba n1:Nat}{ayV lp:bD}{v:Value}(aC:pm.may p=true)(B3:p<ba)(aG:bZK H p n1 ayV)(aw:bZq H ba v lp)(wu:iA lp):
 Call X pm F.bYH [.pointer (some ⟨p,0,none⟩),v] H (bWl pm p ba H lp):=by
 refine Call.h6 al.bYH rfl λQ bU=>?_;have iy:=aw;obtain⟨v1,v2,rfl,U,aa⟩:=aw;obtain⟨bZW,bZX,ao,_⟩:=id U;obtain⟨dG,dE,e2,_⟩:=id aa;subst ao e2;obtain⟨s1,s2,aaI,tP⟩:=aG;have cZv:=g.lt aaI;obtain⟨bJ,zq0⟩:=bZa (H.next);obtain⟨H1,cw⟩:=bZa (H.new (.cells [.slice bZW lp.aj.length bZX,.slice dG lp.rows.length dE] (.t bZR)));have av:=bZi g cw;have g1:=av.aL;have h4:=bZp cw zq0;obtain⟨aIN,aFl⟩:=bZa (H1.next);obtain⟨aJ,ee⟩:=bZa (H1.new (.cells [.int .i64 0,.string ⟨#[]⟩,.slice none 0 0,.slice none 0 0,.slice none 0 0] (.t bZY)));have aI:=bZi g1 ee;have g2:=aI.aL;have bWY:=bZp ee aFl;have ayQ:=aI.some g1 h4;have h8:=av.trans aI;have n1:=bV cw zq0;have fU:=bV ee aFl;have aDI:pm.may aIN=true:=g.may (by omega);simp[g.pick,g.make,ptr,<-zq0,<-cw,  <-aFl,<-ee,ayQ,cX,c5,-bWA,-bVX];refine aR.bZb (vs:=[.agg #[.slice bZW lp.aj.length bZX,.slice dG lp.rows.length dE]]) (Fi al.tohC g2 (iy.lp.ext (h8.ext g)) wu.ok) ?_;rintro _ bN ⟨aQ,rfl⟩;have g3:=aQ.aL;have jH:=h8.trans aQ;have bXq:=aQ.some g2 bWY;have Pt:=aQ.some g2 ayQ;have YI:=aQ.next;have E1:=jH.some g aaI
 cases hm:lp.dP with
 | false=>
   obtain⟨cp,nZ⟩:=bZa (bN.put aIN (.cells [.int .i64 0,.string ⟨#[]⟩,.slice none 0 0,.slice none 0 0,.slice none 0 0] (.t bZY)));have bt:K pm H cp:=by rw[nZ];exact bp.put jH (by omega) bXq (by simp) _
   have mw:=bZv nZ;simp[fill,c5,setCells,bXq,aDI,<-nZ,-bWA];refine bU _ _ _ ?_;simp[ik,mw,cX,c5,bWl,hm];exact bt
 | true=>
   obtain⟨cp,nZ⟩:=bZa (bN.put p (.cells [.slice bZW lp.aj.length bZX,.slice dG lp.rows.length dE] (.t bXV)));have bt:bZw pm p bN cp:=by rw[nZ];exact bZw.put g3 E1 _
   have g4:=bt.aL;have bVb:=bt.some g3 (by omega) bXq;have bVW:=bt.some g3 (by omega) Pt;have cYl:=bZv nZ;have jY:=(K.bVk (p:=p) jH).trans bt;have cYm:bZq cp ba (.agg #[.slice bZW lp.aj.length bZX,.slice dG lp.rows.length dE]) lp:=by
    rw[nZ];exact(iy.ext (jH.ext g)).put B3 _
   simp[Pt,cX,c5,E1,aC,setCells,<-nZ,bVW,-bVY];refine aR.bZb (vs:=[.agg #[.slice bZW lp.aj.length bZX,.slice dG lp.rows.length dE]]) (bVt al.tohj g4 wu.ok cYm.lp (λhm=>bVu wu hm)) ?_;rintro vN cV ⟨cd,cg⟩;have g5:=cd.aL;have bVd:=cd.some g4 bVb
   rcases cg with⟨pZ,_⟩ | ⟨_,a,u,rfl,hu,bVi⟩
   ·rw[hm]at pZ;cases pZ
   ·obtain⟨df,dW,gZ,rfl,kR,jw,jP⟩:=hu;obtain⟨PI,PJ,ao,_⟩:=kR.1.ex;obtain⟨PK,PL,e2,_⟩:=jw.1.ex;obtain⟨PM,PN,bd,_⟩:=jP.1.ex;subst ao e2 bd;have hu:bZH cV cp.next (.agg #[.int .i64 a.st,aW a.val,.slice PI a.x.length PJ,.slice PK a.d.length PL,.slice PM a.r.length PN]) a:=⟨_,_,_,rfl,kR,jw,jP⟩;obtain⟨ep,mA⟩:=bZa (cV.put aIN (.cells [.int .i64 a.st,aW a.val,.slice PI a.x.length PJ,.slice PK a.d.length PL,.slice PM a.r.length PN] (.t bZY)));simp[setCells,bVd,aDI,<-mA];have aay:=bZv mA;have sH:=jY.trans (K.bVk (p:=p) cd);have NC:=bt.next;have cv:bZw pm p H ep:=by rw[mA];exact sH.fin (by omega) bVd _
    refine bU _ _ _ ?_;simp[ik,aay,cX,c5,bWl,hm];refine⟨cv,⟨_,_,by rw[mA,cq (by omega)];exact cd.some g4 cYl,iy.bVN λb y ai h=>cv.some g (by omega) h⟩,a,?_,bVi⟩;rw[mA];exact(hu.put (by omega) _).mono (by omega)
end Go.Dam.C
namespace Go.Dam.C
open Go Go.Dam
variable{X:aY}{pm pm':Perm}{H H' cL H0:ah}{n:Nat}
structure bXp(X:aY):Prop extends bWi X where
 bYy:Has X F.bYy C.bYy
 bYz:Has X F.bYz C.bYz
 bYA:Has X F.bYA C.bYA
 bYB:Has X F.bYB C.bYB
theorem cZe(c:fb):ij [.i,.s] c.cells c.cells=some true:=by
 simp[fb.cells,ij]
theorem cZf(c:eu):ij [.s,.s,.s,.s,.b] c.cells c.cells=some true:=by
 simp[eu.cells,ij]
theorem cZg(al:bXp X)(g:cl pm H){v v':Value}{l:List fb}(aw:nX H v l)(au0:nX H v' l)(aO:l.length<=1000000):
 Call X pm F.bYy [v,v'] H λr H'=>K pm H H'/\r=.bool true:=by
 refine Call.h6 al.bYy rfl λQ bU=>?_;obtain⟨base,cap,e,eU⟩:=aw.ex;obtain⟨dG,dE,e2,xU⟩:=au0.ex;subst e e2;obtain⟨bZA,tA⟩:=bZa (l.length);simp[-bWM,<-tA];refine hv.of (σ:=Nat) (λi=>[(0,.slice base bZA cap),(1,.slice dG bZA dE),(5,.int .i64 (i:Int))]) (λi H'=>i<=bZA/\K pm H H') (λi=>bZA-i) 0 (by simp) ⟨Nat.zero_le _,K.refl g⟩ ?_;rintro i H1 ⟨ad,av⟩;have g1:=av.aL;by_cases gB:i<bZA
 ·obtain⟨b,off,y,row,cs,f1,f2,f3,f4,c,f5,f6⟩:=eU i (by omega);obtain⟨b9,xV,iL,xW,bUd,d1,d2,d3,d4,dd,d5,d6⟩:=xU i (by omega);rw[f5]at d5;cases d5;subst f1 d1;have s6:=av.some g f2;have iL:=av.some g d2;have ck:=g1.lt s6;have cJ:=g1.lt iL;have cS:wr .i64 ((i:Int)+1)=((i+1:Nat):Int):=by rw[zWc (by omega) (by omega)];simp
  have bE:K pm H1 (H1.up 9):=(K.refl g1).up 9;simp[gB];refine eg.of g1.lo rfl ?_;simp[dt,g1.none,g1.fo,gB,s6,iL,f3,d3,f4,d4,f6,d6,dx,dm, ck,cJ,c5,cS,cZe];refine rF.of (i+1) ?_ (by simp) ⟨by omega,K.trans av bE⟩;show bZA-(i+1)<bZA-i;omega
 ·obtain rfl:i=bZA:=by omega
  simp;exact bU _ _ _ (by simp;exact av)
theorem cZh(al:bXp X)(g:cl pm H){r:di}{vc rJ:Value}(aw:nX H vc r.cM)(au0:nX H rJ r.cM)(aO:r.cM.length<=1000000):
 Call X pm F.bYz [.agg (r.cells vc).toArray,.agg (r.cells rJ).toArray] H λr H'=>K pm H H'/\r=.bool true:=by
 refine Call.h6 al.bYz rfl λQ bU=>?_;obtain⟨base,cap,e,_⟩:=aw.ex;obtain⟨dG,dE,e2,_⟩:=au0.ex;subst e e2;obtain⟨jW,jR⟩:=bZa (H.next);obtain⟨H1,cw⟩:=bZa (H.new (.cells (r.cells (.slice base r.cM.length cap)) (.t T.cZi)));have av:=bZi g cw;have g1:=av.aL;have h4:=bZp cw jR;obtain⟨bJ,n1⟩:=bZa (H1.next);obtain⟨aJ,ee⟩:=bZa (H1.new (.cells (r.cells (.slice dG r.cM.length dE)) (.t T.cZj)));have aI:=bZi g1 ee;have g2:=aI.aL;have eA:=bZp ee n1;have ayQ:=aI.some g1 h4;have h8:=av.trans aI;simp only[di.cells]at cw ee h4 eA ayQ|-;simp[g.pick,g.make,  ptr,<-jR,<-cw,<-n1,<-ee,ayQ,eA,-bWN];refine aR.bZb (vs:=[.slice base r.cM.length cap,.slice dG r.cM.length dE]) (cZg al g2 (aw.ext (h8.ext g)) (au0.ext (h8.ext g)) aO) ?_;rintro _ bN ⟨aQ,rfl⟩;simp;exact bU _ _ _ (by simp;exact K.trans h8 aQ)
theorem cZk(al:bXp X)(g:cl pm H){v v':Value}{lp:bD}(au:lp.ok)(aw:ps H v lp)(au0:ps H v' lp):
 Call X pm F.bYA [v,v'] H λr H'=>K pm H H'/\r=.bool true:=by
 refine Call.h6 al.bYA rfl λQ bU=>?_;obtain⟨v1,v2,rfl,af,an⟩:=aw;obtain⟨base,cap,rfl,eU⟩:=af.at;obtain⟨dG,dE,rfl,bUe⟩:=an.at;obtain⟨cS,bL,rfl,x4,oV⟩:=au0;obtain⟨cZl,cZm,rfl,bUf⟩:=x4.at;obtain⟨cZn,cZo,rfl,bUg⟩:=oV.at;obtain⟨bZA,tA⟩:=bZa (lp.aj.length);obtain⟨bZB,bXa⟩:=bZa (lp.rows.length);have oJ:=au.c;have qh:=au.r;rw[<-tA]at eU bUf oJ;rw[<-bXa]at bUe bUg qh;obtain⟨jW,jR⟩:=bZa (H.next);obtain⟨H1,cw⟩:=bZa (H.new (.cells [.slice base bZA cap,.slice dG bZB dE] (.t T.cZp)));have av:=bZi g cw;have g1:=av.aL;have h4:=bZp cw jR;obtain⟨bJ,n1⟩:=bZa (H1.next);obtain⟨aJ,ee⟩:=bZa (H1.new (.cells [.slice cZl bZA cZm,.slice cZn bZB cZo] (.t T.cZq)));have aI:=bZi g1 ee;have g2:=aI.aL;have eA:=bZp ee n1;have ayQ:=aI.some g1 h4;have h8:=av.trans aI;simp[g.pick,g.make,  ptr,<-jR,<-cw,<-n1,<-ee,ayQ,eA,<-tA,<-bXa,-bWO,-bWP];refine hv.of (σ:=Nat) (λi=>[(2,.pointer (some ⟨jW,0,none⟩)),(3,.pointer (some ⟨bJ,0,none⟩)),(5,.int .i64 (i:Int))]) (λi H'=>i<=bZA/\K pm aJ H') (λi=>bZA-i) 0 (by simp) ⟨Nat.zero_le _,K.refl g2⟩ ?_;rintro i bN ⟨ad,aQ⟩;have g3:=aQ.aL;have bWj:=aQ.some g2 ayQ;have bUh:=aQ.some g2 eA;have aC5:=g3.lt bWj;have aC6:=g3.lt bUh;by_cases gB:i<bZA
 ·obtain⟨b,off,y,row,cs,f1,f2,f3,f4,c,f5,f6⟩:=eU i gB;obtain⟨b9,xV,iL,xW,bUd,d1,d2,d3,d4,dd,d5,d6⟩:=bUf i gB;rw[f5]at d5;cases d5;subst f1 d1;have bY:=K.trans h8 aQ;have s6:=bY.some g f2;have iL:=bY.some g d2;have ck:=g3.lt s6;have cJ:=g3.lt iL;have cS:wr .i64 ((i:Int)+1)=((i+1:Nat):Int):=by rw[zWc (by omega) (by omega)];simp
  have bE:K pm bN (bN.up 11):=(K.refl g3).up 11;simp[gB,bWj];refine eg.of g3.lo rfl ?_;simp[dt,g3.none,g3.fo,bWj,bUh,aC5,aC6,gB,s6,iL,f3,d3,f4,d4,f6,d6,dx,dm, ck,cJ,c5,cS,cZf];refine rF.of (i+1) ?_ (by simp) ⟨by omega,K.trans aQ bE⟩;show bZA-(i+1)<bZA-i;omega
 ·obtain rfl:i=bZA:=by omega
  simp[bWj,-bWQ,-bWR];refine hv.of (σ:=Nat) (λi=>[(2,.pointer (some ⟨jW,0,none⟩)),(3,.pointer (some ⟨bJ,0,none⟩)),(6,.int .i64 (i:Int))]) (λi H'=>i<=bZB/\K pm aJ H') (λi=>bZB-i) 0 (by simp) ⟨Nat.zero_le _,aQ⟩ ?_;rintro j cp ⟨aH,bt⟩;have g4:=bt.aL;have bWk:=bt.some g2 ayQ;have bUi:=bt.some g2 eA;have AN:=g4.lt bWk;have AO:=g4.lt bUi;by_cases mB:j<bZB
  ·obtain⟨b,off,y,row,cs,f1,f2,f3,f4,r,vc,f5,f6,f7⟩:=bUe j mB;obtain⟨b9,xV,iL,xW,bUd,d1,d2,d3,d4,cB,cZr,d5,d6,d7⟩:=bUg j mB;rw[f5]at d5;cases d5;subst f1 d1;have bY:=K.trans h8 bt;have s6:=bY.some g f2;have iL:=bY.some g d2;have ck:=g4.lt s6;have cJ:=g4.lt iL;have cS:wr .i64 ((j:Int)+1)=((j+1:Nat):Int):=by rw[zWc (by omega) (by omega)];simp
   have bE:K pm cp (cp.up 12):=(K.refl g4).up 12;have d':r.cM.length<=1000000:=(au.rs _ (fR f5)).2.1;obtain⟨z,bl⟩:=bZa (cp.next);have mS:=λj=>(by rw[bl];exact g4.none j:(cp.up 12).get (z+j)=none);have FA:=(by rw[bl];exact g4.fo:(cp.up 12).get z=none);simp[mB,bWk];refine eg.of g4.lo rfl ?_;rw[<-bl];simp[dt,mS,FA,bWk,bUi,mB,s6,iL,f3,d3,f4,d4,f6,d6,c5];refine bZm bE.aL (vs:=[.agg (r.cells vc).toArray,.agg (r.cells cZr).toArray]) (by simp[mS]) (λpm' bS=>cZh al bS (f7.ext ((K.trans bY bE).ext g)) (d7.ext ((K.trans bY bE).ext g)) d') ?_;rintro _ cV cd rfl;have aye:=cd.next;have G7:∀j,j<12->cV.get (z+j)=none:=λj aH=>(cd.get _ (by show z+j<cp.next+12;omega)).trans (mS j);simp[G7,dx,dm,  cS,show jW<z by omega,show bJ<z by omega,show b<z by omega,show b9<z by omega];refine rF.of (j+1) ?_ (by simp) ⟨by omega,K.trans bt (K.trans bE cd)⟩;show bZB-(j+1)<bZB-j;omega
  ·obtain rfl:j=bZB:=by omega
   simp[bWk];exact bU _ _ _ (by simp;exact K.trans h8 bt)
end Go.Dam.C
namespace Go.Dam.C
open Go Go.Dam
variable{X:aY}{pm pm':Perm}{H H' cL H0:ah}{n:Nat}
theorem bZC.put{ba c:Nat}{r:Value}{lp:bD}(h:bZC H ba r lp)(af:c<ba)(x:cj):bZC (H.put c x) ba r lp:=by
 obtain⟨fQ,fm,n1,fU,vb,rfl,aD,bYC,U,aa,aq⟩:=h;exact⟨fQ,fm,n1,fU,vb,rfl,aD,bYC,U.put (.inl af) x,aa.put (.inl (by omega)) x,λj aH=>(aq j aH).put (by omega) x λ_ _ _ h=>h⟩
theorem bZC.ext{ba:Nat}{r:Value}{lp:bD}(h:bZC H ba r lp)(e:Ext H H'):bZC H' ba r lp:=by
 obtain⟨fQ,fm,n1,fU,vb,rfl,aD,bYC,U,aa,aq⟩:=h;exact⟨fQ,fm,n1,fU,vb,rfl,aD,bYC,U.ext e,aa.ext e,λj aH=>(aq j aH).imp e λ_ _ _ h=>h⟩
theorem bZC.mono{ba m0:Nat}{r:Value}{lp:bD}(h:bZC H ba r lp)(e:m0<=ba):bZC H m0 r lp:=by
 obtain⟨fQ,fm,n1,fU,vb,rfl,aD,bYC,U,aa,aq⟩:=h;exact⟨fQ,fm,n1,fU,vb,rfl,by omega,bYC,U.mono e (bR _),aa,aq⟩
theorem bZC.form{ba:Nat}{r:Value}{lp:bD}(h:bZC H ba r lp):∃cR b9,r=.agg #[.slice cR lp.aj.length lp.aj.length,.slice b9 lp.rows.length lp.rows.length]:=by
 obtain⟨fQ,fm,n1,fU,vb,rfl,aD,bYC,U,aa,aq⟩:=h;obtain⟨cR,rfl⟩:=U.form;obtain⟨b9,rfl⟩:=aa.form;exact⟨cR,b9,rfl⟩
theorem cZs(al:bXp X)(g:cl pm H){p ba:Nat}{lp:bD}(aG:bZK H p ba lp)(af:lp.aj.length<=1000)(an:lp.rows.length<=1000)(Fh:∀i,i<lp.rows.length->(lp.row i).cM.length<=1000):
 Call X pm F.bYB [.pointer (some ⟨p,0,none⟩)] H λr H'=>K pm H H'/\bZC H' H.next r lp:=by
 refine Call.h6 al.bYB rfl λQ bU=>?_;obtain⟨s1,s2,aaI,tP⟩:=aG;obtain⟨_,_,e,bn,bh⟩:=id tP;cases e;obtain⟨cR,bWS,ao,_⟩:=id bn;obtain⟨b9,OA,e2,_⟩:=id bh;subst ao e2;obtain⟨bG,lk⟩:=bZa (H.next);obtain⟨H1,cw⟩:=bZa (H.new (.cells [.slice none 0 0,.slice none 0 0] (.t T.bWT)));have av:=bZi g cw;have g1:=av.aL;have h4:=bZp cw lk;have n1:=bV cw lk;have cZt:=av.some g aaI;have bWU:pm.may bG=true:=g.may (by omega);simp[g.pick,g.make,ptr,<-lk,<-cw,cZt,cX,c5,-bWV];refine aR.bZb (vs:=[.agg #[.slice cR lp.aj.length bWS,.slice b9 lp.rows.length OA]]) (bWW al.tobWz g1 (tP.ext (av.ext g)) af an Fh) ?_;rintro _ aJ ⟨aI,bYf⟩;have g2:=aI.aL;obtain⟨d1,d2,rfl⟩:=bYf.form;have eA:=aI.some g1 h4;obtain⟨bN,iO⟩:=bZa (aJ.put bG (.cells [.slice d1 lp.aj.length lp.aj.length,.slice d2 lp.rows.length lp.rows.length] (.t T.bWT)));have aQ:K pm H bN:=by rw[iO];exact bp.put (K.trans av aI) (by omega) eA (by simp) _
 have jU:=bZv iO;simp[eA,setCells,bWU,<-iO];refine bU _ _ _ ?_;simp[ik,jU,cX,c5];refine⟨aQ,?_⟩;have h:=(bYf.put (c:=bG) (by omega) (.cells [.slice d1 lp.aj.length lp.aj.length,.slice d2 lp.rows.length lp.rows.length] (.t T.bWT))).mono (m0:=H.next) (by omega);rw[<-iO]at h;exact h
end Go.Dam.C
namespace Go.Dam.C
open Go Go.Dam
variable{X:aY}{pm pm':Perm}{H H' cL H0:ah}{n:Nat}
theorem jk.snoc{L xs:List Value}{w n:Nat}{f:Nat->List Value}(h:jk L w n f)(az:xs.length=w):jk (L++xs) w (n+1) λj=>if j=n then xs else f j:=by
 refine⟨by simp[h.1,az,bZz],λj aH=>?_⟩;by_cases e:j=n
 ·subst e;simp only[if_true];refine⟨az,λk ag=>?_⟩;rw[lA (by rw[h.1];omega),h.1];congr 1;omega
 ·simp only[e,if_false];refine⟨(h.2 j (by omega)).1,λk ag=>?_⟩;rw[lB (h.lt (by omega) ag)];exact(h.2 j (by omega)).2 k ag
theorem bZl.gs{lo ad k w:Nat}{v:Value}{f:Nat->List Value}(h:bZl H lo ad v k w f):∃ss o,wm H v w k ss o/\(∀c,o=some c->lo<=c/\c<ad)/\jk ss w k f:=by
 rcases h with⟨rfl,rfl⟩ | ⟨b,L,U,aa,rfl,aq,a8⟩
 ·exact⟨[],none,⟨rfl,rfl,rfl⟩,(λc e=>by cases e),⟨by simp,λj aH=>absurd aH (od _)⟩⟩
 ·exact⟨L,some b,⟨rfl,a8.1,aq⟩,λc e=>by cases e;exact⟨U,aa⟩,a8⟩
theorem bZl.same{lo ad k w:Nat}{v:Value}{f:Nat->List Value}(h:bZl H lo ad v k w f)(e:∀b y,lo<=b->b<ad->H.get b=some y->H'.get b=some y):bZl H' lo ad v k w f:=
 h.imp id λ⟨b,L,U,aa,aq,a8,cg⟩=>⟨b,L,U,aa,aq,e b _ U aa a8,cg⟩
structure bWX(X:aY):Prop extends bXp X where
 bYD:Has X F.bYD C.bYD
def bD.xa(lp:bD)(r:di):bD:=⟨lp.aj,lp.rows++[r]⟩
theorem cZu(al:bWX X)(g:cl pm H){p ba:Nat}{lp:bD}{r:di}{vc:Value}(aC:pm.may p=true)(aG:bZK H p ba lp)(wu:iA (lp.xa r))(Fh:∀i,i<lp.rows.length->(lp.row i).cM.length<=1000)(aGi:r.cM.length<=1000)(Oy:bZj H 0 vc r.cM.length 2 (bYE r.cM)):
 Call X pm F.bYD [.pointer (some ⟨p,0,none⟩),.agg (r.cells vc).toArray] H (bWl pm p H.next H (lp.xa r)):=by
 refine Call.h6 al.bYD rfl λQ bU=>?_;have cYz:lp.aj.length<=6:=wu.n;have cYA:lp.rows.length+1<=12:=by have:=wu.m;simpa [bD.xa]using this
 obtain⟨s1,s2,aaI,tP⟩:=id aG;obtain⟨_,_,e,bn,bh⟩:=id tP;cases e;obtain⟨cR,bWS,ao,_⟩:=id bn;obtain⟨b9,OA,e2,_⟩:=id bh;obtain⟨vb,bUj,bd,_⟩:=id Oy;subst ao e2 bd;have cZv:=g.lt aaI;obtain⟨cO,Cu⟩:=bZa (H.next);obtain⟨H1,cw⟩:=bZa (H.new (.cells (r.cells (.slice vb r.cM.length bUj)) (.t T.bUk)));have av:=bZi g cw;have g1:=av.aL;have n1:=bV cw Cu;have h4:=bZp cw Cu;obtain⟨aIN,aFl⟩:=bZa (H1.next);obtain⟨aJ,ee⟩:=bZa (H1.new (.cells [.int .i64 0,.string ⟨#[]⟩,.slice none 0 0,.slice none 0 0,.slice none 0 0] (.t T.bWm)));have aI:=bZi g1 ee;have g2:=aI.aL;have fU:=bV ee aFl;have bWY:=bZp ee aFl;have bWn:=aI.some g1 h4;have h8:=av.trans aI;have cZw:=h8.some g aaI;have ata:pm.may cO=true:=g.may (by omega);have aDI:pm.may aIN=true:=g.may (by omega);simp only[di.cells]at cw h4 bWn|-;simp[g.pick,g.make,  ptr,<-Cu,<-cw,<-aFl,<-ee,cZw,cX,c5,-bWZ,-bVa];refine aR.bZb (vs:=[.agg #[.slice cR lp.aj.length bWS,.slice b9 lp.rows.length OA]]) (bWW al.tobWz g2 (tP.ext (h8.ext g)) (by omega) (by omega) Fh) ?_;rintro _ bN ⟨aQ,bYf⟩;have g3:=aQ.aL;obtain⟨fQ,fm,m1,m2,Lu,e,cYB,bYC,cy,dd,dy⟩:=bYf;subst e;obtain⟨d1,e⟩:=cy.form;subst e;obtain⟨d2,e⟩:=dd.form;subst e;have jH:=K.trans h8 aQ;have YI:=aQ.next;have bXq:=aQ.some g2 bWY;have bWo:=aQ.some g2 bWn;obtain⟨qZ,aFm⟩:=bZa (bN.next);have Ga:pm.may qZ=true:=g3.may (by omega);have uP:=bXb aFm;obtain⟨cp,nZ⟩:=bZa ((bN.new (.cells [.slice none 0 0,.slice none 0 0] (.t T.bXN))).put qZ (.cells [.slice d1 lp.aj.length lp.aj.length,.slice d2 lp.rows.length lp.rows.length] (.t T.bXN)));have bt:=bYF g3 nZ aFm;have g4:=bt.aL;have jY:=K.trans jH bt;have NC:=bXO nZ aFm;have cZx:=bZv nZ;have bVb:=bt.some g3 bXq;have bXc:=bt.some g3 bWo;simp[g3.pick,g3.make,ptr,c5,<-aFm,uP,Ga,setCells,<-nZ,bXc,-bVc,-bWp];refine aR.bZb (vs:=[.slice vb r.cM.length bUj]) (bWq (w:=2) (by':=24) al.bYs g4 (Oy.imp (jY.ext g) λ_ _ _ h=>h) (by decide) aGi (by decide) (λi cs ⟨c,_,e⟩=>by rw[e];rfl)) ?_;rintro rJ cV ⟨cd,f5,Hc,AQ⟩;have g5:=cd.aL;have cZy:=cd.next;obtain⟨uX,e⟩:=Hc.form;subst e;have bVd:=cd.some g4 bVb;have bUl:=cd.some g4 bXc;have cZz:=cd.some g4 cZx;obtain⟨ep,mA⟩:=bZa (cV.put cO (.cells [aW r.name,.int .i64 r.kind,.slice uX r.cM.length r.cM.length,aW r.rhs,aW r.Ff] (.t T.bUk)));have sH:=K.trans jY cd;have G8:K pm H ep:=by rw[mA];exact bp.put sH (by omega) bUl (by simp) _
 have g6:=G8.aL;have bXP:=bZv mA;have bVe:ep.get qZ=some (.cells [.slice d1 lp.aj.length lp.aj.length,.slice d2 lp.rows.length lp.rows.length] (.t T.bXN)):=by rw[mA,cq (by omega)];exact cZz
 have cYC:ep.next=cV.next:=by rw[mA];rfl
 obtain⟨xs,rl⟩:=bZa ([aW r.name,.int .i64 r.kind,.slice uX r.cM.length r.cM.length,aW r.rhs,aW r.Ff]);have bUm:Ext bN cV:=λb y h=>cd.some g4 (bt.some g3 h);obtain⟨ss,o,bUn,au,dL⟩:=dd.gs;have bYN:∀c,o=some c->m1<=c/\c<m2/\c<bN.next:=λc af=>by
  obtain⟨U,aa⟩:=au c af;subst af;exact⟨U,aa,g3.lt bUn.2.2⟩
 have gs:wm ep (.slice d2 lp.rows.length lp.rows.length) 5 lp.rows.length ss o:=bUn.ext λc y af e=>by
  rw[mA,cq (by have:=(bYN c af).1;omega)];exact bUm _ _ e
 obtain⟨q,aV⟩:=bZa (ep.next);obtain⟨hM,TM⟩:=bZa (ep.new (.cells xs (.n 5)));have dJ:=bZi g6 TM;have g7:=dJ.aL;have aHB:=bV TM aV;have aDM:=bZp TM aV;obtain⟨ns,cx,a2,a3,a4,a5⟩:=YF g7 (by':=80) (n:=H.next) (gs.ext λc y _ e=>dJ.some g6 e) (xs:=xs) (by rw[rl];rfl) (by rw[rl];rfl) (by decide) (by omega) (by decide) (by have:=K.next G8;have:=K.next dJ;omega) (λc af=>⟨by have:=(bYN c af).1;omega,g.may (by have:=(bYN c af).1;omega)⟩);rw[aHB]at cx a2 a4 a5;have g8:=a3.aL;have bUo:ns.get qZ=some (.cells [.slice d1 lp.aj.length lp.aj.length,.slice d2 lp.rows.length lp.rows.length] (.t T.bXN)):=(a5 qZ (by have:=g6.lt bVe;omega) λe=>by have:=(bYN _ e).2.2;omega).trans (dJ.some g6 bVe);obtain⟨yf,PR⟩:=bZa (ns.put qZ (.cells [.slice d1 lp.aj.length lp.aj.length,.slice (some ⟨q+1,0,none⟩) (lp.rows.length+1) (lp.rows.length+1)] (.t T.bXN)));have bXQ:K pm H yf:=by
  have u:bp pm H.next H ns:=bp.trans (K.trans G8 dJ) a3;rw[PR];exact bp.put u (by omega) bUo (by simp) _
 have g9:=bXQ.aL;have cZA:=bZv PR;simp[bUl,ata,setCells,<-mA,-bWp];rw[<-rl]at bXP;have xf:xs.length=5:=by rw[rl];rfl
 have cZB:xs.take 5=xs:=by rw[rl];rfl
 have lN:setCells [.string ⟨#[]⟩,.int .i64 0,.slice none 0 0,.string ⟨#[]⟩,.string ⟨#[]⟩] 0 xs=some xs:=by rw[rl];rfl
 simp[xf,cZB,lN, bXP,bVe,cX,c5,g6.pick,g6.make,<-aV,<-TM,aDM,cx,bUo,Ga,<-PR,cZA,-bVf];have cYD:cV.next<=q:=by omega
 have bUp:∀b y,cV.get b=some y->b≠cO->b≠qZ->o≠some b->yf.get b=some y:=λb y h U aa aq=>by
  have:=g5.lt h;rw[PR,cq aa,a5 b (by omega) aq,TM,zy (by omega),mA,cq U];exact h
 have bVg:∀b y,bN.get b=some y->b≠cO->o≠some b->yf.get b=some y:=λb y h U aa=>bUp b y (bUm _ _ h) U (by have:=g3.lt h;omega) aa;have cZC:yf.get (q+1)=some (.cells (ss++xs) (.n 5)):=by rw[PR,cq (by omega)];exact a2.2.2
 have bUq:=dL.snoc xf;have cZD:bZq yf aJ.next (.agg #[.slice d1 lp.aj.length lp.aj.length,.slice (some ⟨q+1,0,none⟩) (lp.rows.length+1) (lp.rows.length+1)]) (lp.xa r):=by
  refine⟨_,_,rfl,?_,?_⟩
  ·have h:bZl yf aJ.next m1 (.slice d1 lp.aj.length lp.aj.length) lp.aj.length 5 λj=>(lp.col j).cells:=cy.same λb y U aa e=>bVg b y e (by omega) λe2=>by have:=(bYN _ e2).1;omega
   exact(h.e (P:=bUr (lp.xa r).aj) λi ad=>⟨_,bD.Cn ad,rfl⟩).mono (by omega) λ_ _ _ h=>h
  ·show bZj yf aJ.next _ (lp.rows++[r]).length 5 _;rw[tr];refine⟨_,_,rfl,λe=>(by cases e),λa aN=>?_⟩;cases aN;refine⟨q+1,0,_,ss++xs,rfl,by omega,cZC,rfl,by rw[bUq.1];simp,λi ad=>⟨_,by rw[Nat.zero_add];exact bUq.row ad,?_⟩⟩;by_cases Nf:i=lp.rows.length
   ·subst Nf;refine⟨r,.slice uX r.cM.length r.cM.length,by show(lp.rows++[r])[lp.rows.length]? = some r;simp,by rw[bm rfl,rl];rfl,?_⟩;have h:bZl yf cp.next cV.next (.slice uX r.cM.length r.cM.length) r.cM.length 2 f5:=Hc.same λb y U aa e=>bUp b y e (by omega) (by omega) λe2=>by have:=(bYN _ e2).2.2;omega
    exact(h.e AQ).mono (by omega) λ_ _ _ h=>h
   ·have hi':i<lp.rows.length:=by simp at ad;omega
    refine⟨lp.row i,Lu i,by show(lp.rows++[r])[i]? = some (lp.row i);rw[lB hi'];exact bD.rowAt hi',by rw[aU Nf],?_⟩;exact((dy i hi').bXR (λb y ai e=>bVg b y e (by omega) λe2=>by have:=(bYN _ e2).2.1;omega) λ_ _ _ h=>h).mono (by omega) λ_ _ _ h=>h
 refine aR.bZb (vs:=[.pointer (some ⟨p,0,none⟩),.agg #[.slice d1 lp.aj.length lp.aj.length,.slice (some ⟨q+1,0,none⟩) (lp.rows.length+1) (lp.rows.length+1)]]) (cZE al.tobWi g9 aC (by omega) (aG.ext (bXQ.ext g)) cZD wu) ?_;have bVh:yf.get aIN=some (.cells [.int .i64 0,.string ⟨#[]⟩,.slice none 0 0,.slice none 0 0,.slice none 0 0] (.t T.bWm)):=bVg _ _ bXq (by omega) λe=>by have:=(bYN _ e).1;omega
 have cYE:=g9.lt bVh;have cYF:=bXQ.next;rintro vN qJ (⟨hm,Cx,rfl⟩ | ⟨hm,Cx,bXr,a,u,rfl,hu,bVi⟩)
 ·have km:=Cx.some g9 bVh;have cv:K pm H (qJ.put aIN (.cells [.int .i64 0,.string ⟨#[]⟩,.slice none 0 0,.slice none 0 0,.slice none 0 0] (.t T.bWm))):=bp.put (K.trans bXQ Cx) (by omega) km (by simp) _;simp[setCells,km,aDI];refine bU _ _ _ ⟨.inr rfl,[bVj,.bool false],by simp[ik,dX,cX,c5],.inl ⟨hm,cv,rfl⟩⟩
 ·obtain⟨df,dW,gZ,rfl,kR,jw,jP⟩:=id hu;obtain⟨PI,PJ,ao,_⟩:=kR.1.ex;obtain⟨PK,PL,e2,_⟩:=jw.1.ex;obtain⟨PM,PN,bd,_⟩:=jP.1.ex;subst ao e2 bd;have km:=Cx.some g9 (by omega) bVh;obtain⟨sM,yg⟩:=bZa (qJ.put aIN (.cells [.int .i64 a.st,aW a.val,.slice PI a.x.length PJ,.slice PK a.d.length PL,.slice PM a.r.length PN] (.t T.bWm)));have wx:bZw pm p H sM:=by rw[yg];exact((K.bVk bXQ).trans Cx).fin (by omega) km _
  have cZF:=bZv yg;simp[setCells,km,aDI,<-yg];refine bU _ _ _ ⟨.inr rfl,[.agg #[.int .i64 a.st,aW a.val,.slice PI a.x.length PJ,.slice PK a.d.length PL,.slice PM a.r.length PN],.bool true],by simp[ik,cZF,cX,c5],.inr ⟨hm,wx,?_,a,_,rfl,?_,bVi⟩⟩
  ·rw[yg];exact(bXr.put (by omega) (by omega) _).mono (by omega)
  ·rw[yg];exact(hu.put (by omega) _).mono (by omega)
end Go.Dam.C
namespace Go.Dam.C
open Go Go.Dam
variable{X:aY}{pm pm':Perm}{H H' cL H0:ah}{n:Nat}
structure bUs(X:aY):Prop extends bWX X where
 bYO:Has X F.bYO C.bYO
abbrev bUt:Nat:=T.cZG
def bD.cap(lp:bD)(i:Nat):bD:=⟨lp.aj,lp.rows.take i⟩
theorem cZH{lp:bD}:lp.cap lp.rows.length=lp:=by
 simp[bD.cap]
theorem bVl{lp:bD}{i:Nat}(ad:i<lp.rows.length):(lp.cap i).xa (lp.row i)=lp.cap (i+1):=by
 unfold bD.cap bD.xa;congr 1;rw[List.take_add_one,bD.rowAt ad];rfl
theorem cZI{lp:bD}{i j:Nat}(aH:j<(lp.cap i).rows.length):(lp.cap i).row j=lp.row j/\j<lp.rows.length:=by
 have h:j<i/\j<lp.rows.length:=by simp[bD.cap]at aH;omega
 refine⟨?_,h.2⟩;have U:=bD.rowAt aH;have aa:=bD.rowAt h.2;simp only[bD.cap,pT h.1]at U;rw[aa]at U;exact(bZI U).symm
theorem bUu{lp:bD}{i:Nat}(h:iA lp):iA (lp.cap i):=by
 refine⟨h.n,by have:=h.m;simp[bD.cap];omega,h.c,λr an=>h.r r (bYk an)⟩
theorem bUv{lp:bD}{i:Nat}(h:lp.dP=true):(lp.cap i).dP=true:=by
 unfold bD.dP at h|-;simp only[bD.cap,cG,mN,hz]at h|-;refine⟨?_,h.2.1,λx az=>h.2.2 x (bYk az)⟩;have U:=h.1;rw[Bool.or_eq_false_iff]at U|-;refine⟨U.1,bZS ?_⟩;have aa:=of_decide_eq_false U.2;rw[bYl];omega
theorem cZJ(al:bUs X)(g:cl pm H){v:Value}{lp:bD}(YK:x' H v lp):
 Call X pm F.bYO [v] H λr H'=>K pm H H'/\r=.bool true:=by
 refine Call.h6 al.bYO rfl λQ bU=>?_;have aw:=YK.lp;obtain⟨v1,v2,rfl,af,an⟩:=aw;obtain⟨base,cap,rfl,_⟩:=af.at;obtain⟨dG,dE,rfl,_⟩:=an.at;obtain⟨jW,jR⟩:=bZa (H.next);obtain⟨H1,cw⟩:=bZa (H.new (.cells [.slice base lp.aj.length cap,.slice dG lp.rows.length dE] (.t bUt)));have av:=bZi g cw;have g1:=av.aL;have h4:=bZp cw jR;have n1:=bV cw jR;have cZK:pm.may jW=true:=g.may (by omega);simp[g.pick,g.make,ptr,<-jR,<-cw,-bVm,-bVn];refine aR.bZb (vs:=[]) (ax2 al.tobXd g1.fJ) ?_;rintro _ H1 ⟨rfl,rfl⟩;simp[h4,cX,c5,-bVo,-bVp];refine aR.bZb (vs:=[.agg #[.slice base lp.aj.length cap,.slice dG lp.rows.length dE]]) (ayP al.tobXd pm _ g1 _ lp (YK.ext (av.ext g))) ?_;rintro cB aJ ⟨aI,f2⟩;have g2:=aI.aL;have eA:=aI.some g1 h4;obtain⟨fQ,fm,rfl,kE,mo,sn,Py⟩:=f2;obtain⟨zN,zO,rfl,_⟩:=kE.at;obtain⟨zP,zQ,rfl,_⟩:=mo.rows.at;obtain⟨bN,iO⟩:=bZa (aJ.put jW (.cells [.slice zN lp.cut.aj.length zO,.slice zP lp.cut.rows.length zQ] (.t bUt)));have fu:bp pm H.next aJ bN:=by rw[iO];exact bp.put (.refl g2) (by omega) eA (by simp) _
 have aQ:K pm H bN:=bp.trans (K.trans av aI) fu;have g3:=aQ.aL;have dh:=bZv iO;have bWr:sL bN H1.next (.agg #[.slice zN lp.cut.aj.length zO,.slice zP lp.cut.rows.length zQ]) lp.cut:=by
  rw[iO];exact sL.put ⟨_,_,rfl,kE,mo,sn,Py⟩ (by omega) _
 have wu:=lp.ax8;have Fh:∀i,i<lp.cut.rows.length->(lp.cut.row i).cM.length<=1000:=λi ad=>by
  obtain⟨r,_,e⟩:=bZT.1 (fR (bD.rowAt ad):lp.cut.row i∈(lp.rows.take 6).map di.cut);rw[<-e];simp only[di.cut,bYS,bYl];omega
 obtain⟨l,aO⟩:=bZa (lp.cut);rw[<-aO]at iO dh bWr wu Fh;have fin:∀l' H',K pm H H'->a7 2 l'=some (.bool true)->Q .ret l' H':=λl' H' k h1=>bU _ _ _ (by simp[h1];exact k);simp[eA,setCells,cZK,<-aO,<-iO,dh,cX,c5,-bVq,-bVr];have bVs:=bWr.e;refine aR.bZb (vs:=[.agg #[.slice zN l.aj.length zO,.slice zP l.rows.length zQ]]) (bVt al.tohj g3 wu.ok bVs.lp (λhm=>bVu wu hm)) ?_;rintro _ cp ⟨bt,a8⟩;have g4:=bt.aL;have jY:=K.trans aQ bt;have iQ:=bt.some g3 dh;have YI:=aQ.next;have aGm:=bt.next;have ayV:=g3.lt dh;obtain⟨aIN,aFl⟩:=bZa (cp.next);have aDI:pm.may aIN=true:=g4.may (by omega);have bUw:=bXb aFl
 rcases a8 with⟨hm,rfl⟩ | ⟨hm,a,u,rfl,hu,aG⟩
 ·obtain⟨cV,r5⟩:=bZa ((cp.new (.cells [.int .i64 0,.string ⟨#[]⟩,.slice none 0 0,.slice none 0 0,.slice none 0 0] (.t T.bWs))).put aIN (.cells [.int .i64 0,.string ⟨#[]⟩,.slice none 0 0,.slice none 0 0,.slice none 0 0] (.t T.bWs)));have cd:=bYF g4 r5 aFl;simp[g4.pick,g4.make,ptr, <-aFl,bUw,aDI,<-r5,setCells,-bVv];exact fin _ _ (K.trans jY cd) (by simp)
 ·obtain⟨df,dW,gZ,rfl,kR,jw,jP⟩:=id hu;obtain⟨PI,PJ,ao,_⟩:=kR.1.ex;obtain⟨PK,PL,e2,_⟩:=jw.1.ex;obtain⟨PM,PN,bd,_⟩:=jP.1.ex;subst ao e2 bd;obtain⟨cV,r5⟩:=bZa ((cp.new (.cells [.int .i64 0,.string ⟨#[]⟩,.slice none 0 0,.slice none 0 0,.slice none 0 0] (.t T.bWs))).put aIN (.cells [.int .i64 a.st,aW a.val,.slice PI a.x.length PJ,.slice PK a.d.length PL,.slice PM a.r.length PN] (.t T.bWs)));have cd:=bYF g4 r5 aFl;have g5:=cd.aL;have sH:=K.trans jY cd;have t0:=cd.some g4 iQ;have t4:=bZv r5;have aye:=bXO r5 aFl;have cZL:=bVs.ext ((K.trans bt cd).ext g3);simp[g4.pick,g4.make,ptr,c5,<-aFl,bUw,aDI,<-r5,setCells,t0,cX,-bVw,-bVx];have cZM:bZq cV H1.next (.agg #[.slice zN l.aj.length zO,.slice none 0 0]) (l.cap 0):=by
   obtain⟨_,_,e,U,_⟩:=id cZL;cases e;exact⟨_,_,rfl,U,⟨none,0,by simp[bD.cap],λ_=>by simp[bD.cap],λa e=>by cases e⟩⟩
  have bUx:∀i j,j<(l.cap i).rows.length->((l.cap i).row j).cM.length<=1000:=λi j aH=>by
   obtain⟨ao,e2⟩:=cZI aH;rw[ao];exact Fh j e2
  refine aR.bZb (vs:=[.agg #[.slice zN l.aj.length zO,.slice none 0 0]]) (cZN al.tobWi g5 cZM (bUu wu) (bUx 0)) ?_;rintro _ ep ⟨cv,⟨h,_⟩ | ⟨_,p,b0,Co,rfl,B3,bUy,bUz,axW⟩⟩
  ·rw[bUv hm]at h;cases h
  have g6:=cv.aL;have G8:=K.trans sH cv;obtain⟨s6,iL,qV,rfl,rW,wS,pJ⟩:=id bUz;obtain⟨bVy,bVz,ao,_⟩:=rW.1.ex;obtain⟨bVA,bVB,e2,_⟩:=wS.1.ex;obtain⟨bVC,bVD,bd,_⟩:=pJ.1.ex;subst ao e2 bd;obtain⟨AH,bWt⟩:=bZa (ep.next);have bUA:pm.may AH=true:=g6.may (by omega);have cZO:=bXb bWt;obtain⟨hM,TM⟩:=bZa ((ep.new (.cells [.int .i64 0,.string ⟨#[]⟩,.slice none 0 0,.slice none 0 0,.slice none 0 0] (.t T.bWu))).put AH (.cells [.int .i64 b0.st,aW b0.val,.slice bVy b0.x.length bVz,.slice bVA b0.d.length bVB,.slice bVC b0.r.length bVD] (.t T.bWu)));have dJ:=bYF g6 TM bWt;have g7:=dJ.aL;have wv:=K.trans G8 dJ;have aHB:=bXO TM bWt;have t77:=bZv TM;have bUB:Ext bN hM:=(K.trans (K.trans bt cd) (K.trans cv dJ)).ext g3;have t70:=bUB _ _ dh;have t74:=dJ.some g6 (cv.some g5 t4);have Rh:p<ep.next:=by obtain⟨_,_,h,_⟩:=id bUy;exact g6.lt h
  have bWU:pm.may p=true:=g5.may B3;have cYG:bN.next<=p:=by omega
  obtain⟨bZB,bXa⟩:=bZa (l.rows.length);have Ga:=wu.m;rw[<-bXa]at t70;simp[g6.pick,g6.make,ptr,c5,<-bWt,cZO,bUA,<-TM,setCells,t70,cX,-bVE,-bWv]
  refine hv.of (σ:=Nat×iz) (λs=>[(1,.pointer (some ⟨jW,0,none⟩)),(4,.pointer (some ⟨aIN,0,none⟩)),(6,.pointer (some ⟨p,0,none⟩)),(7,.pointer (some ⟨AH,0,none⟩)),(34,.int .i64 (bZB:Int)),(35,.int .i64 (s.1:Int))])
   (λs H'=>s.1<=bZB/\K pm H H'/\hM.next<=H'.next/\(∀b y,b≠p->b≠AH->hM.get b=some y->H'.get b=some y)/\bZK H' p (p+1) (l.cap s.1)/\bZL (l.cap s.1) s.2/\∃v1 v2 v3,H'.get AH=some (.cells [.int .i64 s.2.st,aW s.2.val,v1,v2,v3] (.t T.bWu))/\ur H' (.agg #[.int .i64 s.2.st,aW s.2.val,v1,v2,v3]) s.2)
   (λs=>bZB-s.1) (0,b0) (by simp) ⟨Nat.zero_le _,wv,bR _,λ_ _ _ _ h=>h,bUy.ext (dJ.ext g6),axW,_,_,_,t77,(bUz.ext (dJ.ext g6)).YG⟩ ?_
  rintro⟨i,b⟩ qJ ⟨ad,Cx,aHr,Za,bXr,qK,cS,bL,kF,bXS,bUC⟩;simp only at ad Cx aHr Za bXr qK bXS bUC|-;have nr:=Cx.aL;have bXT:=Za _ _ (by omega) (by omega) t70;have bVF:=Za _ _ (by omega) (by omega) t74;have cZP:Ext bN qJ:=λb y h=>by have:=g3.lt h;exact Za _ _ (by omega) (by omega) (bUB _ _ h)
  have YL:=bVs.ext cZP;by_cases gB:i<bZB
  ·have hi':i<l.rows.length:=by omega
   have cS:wr .i64 ((i:Int)+1)=((i+1:Nat):Int):=by rw[zWc (by omega) (by omega)];simp
   obtain⟨_,_,e,_,lQ⟩:=id YL;cases e;obtain⟨rb,rc,e,hB,bn⟩:=lQ;cases e
   cases bVG:zP with
   | none=>exact absurd (hB bVG) (by omega)
   | some ab=>
     obtain⟨oY,off,y,row,rfl,_,bu,nU,_,eU⟩:=bn _ bVG;obtain⟨cs,hW,r,vc,kb,rfl,Oy⟩:=eU i hi';rw[bD.rowAt hi']at kb;cases kb;rw[bVG]at bXT;have ld:=(Fy hW).1;simp[gB,bXT,bu,nU,hW,c5,-bVH,-bVI];refine aR.bZb (vs:=[.pointer (some ⟨p,0,none⟩),.agg ((l.row i).cells vc).toArray]) (cZu al.tobWX nr bWU bXr (by rw[bVl hi'];exact bUu wu) (bUx i) (Fh i hi') (Oy.mono (Nat.zero_le _) λ_ _ _ h=>h)) ?_;rintro _ sM (⟨h,_⟩ | ⟨_,wx,bUD,b',k5,rfl,bUE,bUF⟩)
     ·rw[bVl hi',bUv hm]at h;cases h
     rw[bVl hi']at bUD bUF;obtain⟨s6,iL,qV,rfl,rW,wS,pJ⟩:=id bUE;obtain⟨bVy,bVz,ao,_⟩:=rW.1.ex;obtain⟨bVA,bVB,e2,_⟩:=wS.1.ex;obtain⟨bVC,bVD,bd,_⟩:=pJ.1.ex;subst ao e2 bd;have bUG:=wx.some nr (by omega) bXS;obtain⟨CD,CM⟩:=bZa (sM.put AH (.cells [.int .i64 b'.st,aW b'.val,.slice bVy b'.x.length bVz,.slice bVA b'.d.length bVB,.slice bVC b'.r.length bVD] (.t T.bWu)));simp[bUG,setCells, bUA,<-CM,cS];have B4:=wx.next;have cZQ:K pm H sM:=bp.trans Cx (wx.up (by omega) (by have:=K.next Cx;omega));refine rF.of (i+1,b') ?_ (by simp) ⟨by show i+1<=bZB;omega,?_,?_,?_,?_,bUF,_,_,_,by rw[CM];exact dX,?_⟩
     ·show bZB-(i+1)<bZB-i;omega
     ·rw[CM];exact bp.put cZQ (by omega) bUG (by simp) _
     ·rw[CM];show hM.next<=sM.next;omega
     ·intro b y U aa h;rw[CM,cq aa];exact wx.some nr U (Za _ _ U aa h)
     ·rw[CM];exact(bUD.put (by omega) (by omega) _).mono (by omega)
     ·rw[CM];exact(bUE.put (by omega) _).YG
  ·obtain rfl:i=bZB:=by omega
   rw[bXa,cZH]at bXr qK;obtain rfl:=bZL.uniq aG qK;obtain⟨z,bl⟩:=bZa (qJ.next);have bE:K pm qJ (qJ.up 24):=(K.refl nr).up 24;have cZR:=bE.aL;have mS:=λj=>(by rw[bl];exact nr.none j:(qJ.up 24).get (z+j)=none);have FA:=(by rw[bl];exact nr.fo:(qJ.up 24).get z=none);have c0:=nr.lt bXT;have hP:=nr.lt bVF;have dO:=nr.lt bXS;obtain⟨YQ,ayl⟩:=bZL.kQ wu hm aG;have ayn:=λaa=>bZL.len wu hm aG aa;have bUH:=YL.lp.ext (bE.ext nr);have cZS:=bUC.ext (bE.ext nr);rw[<-bXa]at bUH;simp[-bWv];simp;refine eg.of nr.lo rfl ?_;rw[<-bl];simp[dt,mS,FA,bXT,bVF,bXS,cX,c5];refine bZm cZR (vs:=[.agg #[.slice zN l.aj.length zO,.slice zP i zQ],.agg #[.int .i64 a.st,aW a.val,cS,bL,kF]]) (by simp[mS]) (λpm' bS=>PH al.tohj bS wu.ok bUH cZS ayl ayn) ?_;rintro _ bVJ bWw rfl;have cZT:=bWw.aL;have cYH:qJ.next+24<=bVJ.next:=bWw.next;have bVK:∀j,j<24->bVJ.get (z+j)=none:=λj aH=>(bWw.get _ (by show z+j<qJ.next+24;omega)).trans (mS j);have bXU:K pm qJ bVJ:=K.trans bE bWw;have cZU:=bXU.some nr bXT;have cYI:=bXU.some nr bXS;have cYJ:=bXU.some nr bVF;simp[YQ,bVK,cZU,cX,c5];refine bZk cZT (vs:=[.pointer (some ⟨p,0,none⟩)]) (by simp[bVK]) (λpm' bS=>cZs al.tobXp bS (bXr.ext (bXU.ext nr)) (by have:=wu.n;omega) (by omega) Fh) ?_;rintro u bUI bWx bYf;have cZV:=bWx.aL;have cYK:=bWx.next;obtain⟨d1,d2,rfl⟩:=bYf.form;have bUJ:∀j,j<24->bUI.get (z+j)=none:=λj aH=>(bWx.get _ (by omega)).trans (bVK j aH);have bUK:K pm qJ bUI:=K.trans bXU bWx;have bUL:=YL.lp.ext (bUK.ext nr);rw[<-bXa]at bUL;simp;refine bZm cZV (vs:=[.agg #[.slice d1 l.aj.length l.aj.length,.slice d2 l.rows.length l.rows.length],.agg #[.slice zN l.aj.length zO,.slice zP i zQ]]) (by simp[bUJ]) (λpm' bS=>cZk al.tobXp bS wu.ok bYf.e.lp bUL) ?_;rintro _ cZW bUM rfl;have wn:∀j,j<24->cZW.get (z+j)=none:=λj aH=>(bUM.get _ (by omega)).trans (bUJ j aH);have x9:=λo=>jh (lo:=pm.lo) (ok:=pm.ok) (o:=o) (b:=p) (by have:=g3.lo;omega);have qE:gp [p] [jW]=true:=kS (by omega);simp[wn,gI,x9,qE,dx,dm, ez,   show jW<z by omega,show aIN<z by omega,show AH<z by omega];exact fin _ _ (K.trans Cx (K.trans bUK bUM)) (by simp)
end Go.Dam.C
namespace Go.Dam.C
open Go Go.Dam Go.RowKit
def jn.post:jn->Value->ah->Prop
 | .eW q,v,H=>jC H v q
 | .val u,v,_=>v=u/\plainCell u=true
 | .no,v,_=>v=.tuple #[.pointer none,.bool false]
 | .yes q,v,H=>∃p,v=.tuple #[p,.bool true]/\jC H p q
theorem aB6{γ:bo}{v v':Value}(h:bg γ v v')(aC:plainCell v=true):v'=v:=by
 cases h<;>first | rfl | (simp[plainCell]at aC)
theorem abr{H:ah}(h:qI H=true):H.get 1=some (.eE (.nat 0)):=by
 unfold qI at h;split at h
 ·assumption
 ·cases h
theorem RQ{base:Nat}{γ:bo}{H:ah}{w:World}(an:Rel iG base γ H w){a a':Value}{p:Rat}(h:qD H a=some p)(aw:bg γ a a'):yD w (iJ γ H w) a' p:=by
 unfold qD at h;split at h
 ·cases aw;simp only[a6]at h;exact .inl ⟨rfl,h.symm⟩
 ·rename_i b;split at h
  ·rename_i q aK;obtain⟨L,bC,_,rfl⟩:=aw.pj;obtain⟨x,U,aa⟩:=an.bI b L bC;rw[aK]at U;cases U;obtain⟨gd,aB,aV⟩:=aa;simp only[a6]at h;subst h;simp only[aB];exact aV
  ·cases h
 ·cases h
theorem Step.eE{O:da}{base:Nat}{pm:Perm}{γ:bo}{H:ah}{w w':World}(an:Rel O base γ H w)(ai:Below w.heap.size w w'){o:Hr}{c:Nat}(af:w.heap.size<=c)(hW:c<w'.heap.size)
 (kZ:O.rel w' (λb=>b<w'.heap.size/\(iJ γ H w b∨w.heap.size<=b)) c o):Step O base pm γ H w (γ.set H.next ⟨c,0,0,0⟩) (H.new (.eE o)) w':=by
 have hle:=an.Wk ⟨c,0,0,0⟩;have ag:∀c,c<w.heap.size->w'.heap[c]? = w.heap[c]?:=ai.block;have bO:∀b L,γ b=some L->hr (H.get b)->L.bI<w.heap.size:=λb L h r=>by
  obtain⟨x,U,aa⟩:=an.bI b L h;rw[U]at r;exact aa.lt r
 have aK:∀b,(H.new (.eE o)).get b=if b=H.next then some (.eE o) else H.get b:=λb=>ah.qa H b _
 have lQ:∀b L,γ.set H.next ⟨c,0,0,0⟩ b=some L->hr ((H.new (.eE o)).get b)->γ b=some L/\hr (H.get b):=λb L h r=>by
  rw[aK]at r;by_cases e:b=H.next
  ·rw[bm e]at r;exact r.elim
  ·rw[bo.j' _ _ e]at h;rw[aU e]at r;exact⟨h,r⟩
 have e8:∀b,(b<w'.heap.size/\(iJ γ H w b∨w.heap.size<=b))->iJ (γ.set H.next ⟨c,0,0,0⟩) (H.new (.eE o)) w' b:=λb ⟨U,aa⟩=>⟨U,λd L h r=>by
  obtain⟨bn,bh⟩:=lQ d L h r
  rcases aa with aa | aa
  ·exact aa.2 d L bn bh
  ·have:=bO d L bn bh;omega⟩
 have aB7:∀b,iJ γ H w b->iJ (γ.set H.next ⟨c,0,0,0⟩) (H.new (.eE o)) w' b/\w'.heap[b]? = w.heap[b]?:=λb h=>⟨e8 b ⟨hR h.1 ai.size,.inl h⟩,ag b h.1⟩;refine⟨⟨λb L h=>?_,λb L h=>?_,λb h=>?_,λb b' L L' h gJ r r' q=>?_,λb L h r=>?_,bH an.size ai.size⟩,hle,λb L U aa=>?_,ai.size,λc af _=>ag c af,bYx _,λb ai _=>?_,λb L h r=>?_,λb L U aa=>?_,ai.os,ai.tape,ai.output⟩
 ·rw[aK];by_cases e:b=H.next
  ·subst e;rw[bo.im]at h;cases h;rw[bm rfl];exact⟨_,rfl,e8 c ⟨hW,.inr af⟩,rfl,O.zg kZ λb ai=>⟨e8 b ai,rfl⟩⟩
  ·rw[bo.j' _ _ e]at h;obtain⟨x,U,aa⟩:=an.bI b L h;rw[aU e];exact⟨x,U,aa.mono hle aB7 λr=>ag _ (aa.lt r)⟩
 ·show b<H.next+1;by_cases e:b=H.next
  ·omega
  ·rw[bo.j' _ _ e]at h;have:=an.lt b L h;omega
 ·have h:H.next+1<=b:=h;rw[aK,aU (by omega)];exact an.new b (by omega)
 ·obtain⟨bn,bh⟩:=lQ b L h r;obtain⟨cu,e9⟩:=lQ b' L' gJ r';exact an.inj b b' L L' bn cu bh e9 q
 ·obtain⟨bn,bh⟩:=lQ b L h r;exact an.low b L bn bh
 ·by_cases e:b=H.next
  ·subst e;rw[bo.im]at U;cases U;exact .inl af
  ·rw[bo.j' _ _ e,aa]at U;cases U
 ·rw[aK,aU (by omega)]
 ·have:=an.lt b L h;rw[aK,aU (by omega)]at r;exact r
 ·by_cases e:b=H.next
  ·exact .inl (by omega)
  ·rw[bo.j' _ _ e,aa]at U;cases U
section
variable{P:Program}{G:Nat->Bool}{X:aY}
theorem aB8(jb:∀g,G g=true->g=1)(db:∀m d,fT nz P G (X.K m d)){N:Nat->Prop}{W:World}{γ:bo}{H:ah}(h:In nz N W γ H){f:FuncId}{args:List Value}{dR:Array Value}{R:Value->ah->Prop}(af:Call X ⟨0,[],none⟩ f args H R)(aN:cm γ args dR.toList):
 tI P f dR W λen w'=>∃r v' bk H',en=.returned v'/\R r H'/\bg bk r v'/\Rel nz 0 bk H' w'/\Below W.heap.size W w'/\(∀b L,bk b=some L->N L.bI∨W.heap.size<=L.bI)/\∀b L,bk b=some L->hr (H'.get b)->W.heap.size<=L.bI:=by
 obtain⟨r,H',⟨M,e7⟩,dD⟩:=af;have bA:hH G γ:=by
  intro g aK;obtain rfl:=jb g aK;obtain⟨L,g1,g2,g3⟩:=h.FE;exact⟨L,g1,g2,g3⟩
 have aB:=db M M ⟨0,[],none⟩ f args H r H' rfl (e7 M M (bR _) (bR _)) 0 γ W dR h.rel bA aN;refine aB.mono λen w' ⟨bk,v',U,aa,aq⟩=>⟨r,v',bk,H',U,dD,aa,aq.rel,⟨aq.os,aq.tape,aq.output,aq.grow,λc af=>aq.bT c af λb L ai r=>(h.ro b r).elim⟩,λb L ai=>?_,λb L ai rw=>?_⟩
 ·cases e:γ b with
  | some hI=>
    have:=aq.ext b hI e;rw[ai]at this;cases this;exact .inl (h.n b L e)
  | none=>
    rcases aq.fresh b L ai e with q | ⟨b0,_,_,q,_⟩
    ·exact .inr q
    ·exact(h.ro b0 q).elim
 ·cases e:γ b with
  | some hI=>exact(h.ro b (aq.mR b hI e rw)).elim
  | none=>
    rcases aq.fresh b L ai e with q | ⟨b0,_,_,q,_⟩
    ·exact q
    ·exact(h.ro b0 q).elim
theorem KY(j7:G 1=true)(jb:∀g,G g=true->g=1)(db:∀m d,fT nz P G (X.K m d)){f:FuncId}{r:List Value->ah->Option jn}
 (h:∀args H x,r args H=some x->∀base γ w dR,Rel iG base γ H w->cm γ args dR->∀γ0 H0,In nz (iJ γ H w) w γ0 H0->∃RR RS cH,In nz (iJ γ H w) w RR RS/\cm RR cH dR/\Call X ⟨0,[],none⟩ f cH RS x.post):gY iG P G f (eM r):=by
 intro pm args H v H' _ aK base γ w dR an bA aN;unfold eM at aK
 cases aS:qI H with
 | false=>rw[aS]at aK;cases aK
 | true=>
   rw[aS]at aK;simp only[cond_true]at aK;split at aK
   ·rename_i x az;simp only[a6]at aK;obtain⟨L,bC,ai,_⟩:=bA 1 j7;obtain⟨y,U,aa⟩:=an.bI 1 L bC;rw[abr aS]at U;cases U;obtain⟨gd,_,_,_,e,cz,hw⟩:=aa;rw[ai]at gd hw;obtain⟨RR,RS,cH,ad,aC,af⟩:=h args H x az base γ w dR.toList an aN _ _ (In.start (λ_ h=>⟨rfl,h,e,cz,hw⟩) hw gd);refine(aB8 jb db ad af aC).mono λen w' ⟨r,v',bk,aJ,U,dD,aa,aq,dC,a8,cg⟩=>?_;have eW:∀{p yk:Value} {q:Rat},jC aJ p q->bg bk p yk->∃c,yk=.pointer (some ⟨c,0,none⟩)/\Step iG base pm γ H w (γ.set H.next ⟨c,0,0,0⟩) (H.new (.eE (.lF q))) w'/\bg (γ.set H.next ⟨c,0,0,0⟩) (.pointer (some ⟨H.next,0,none⟩)) yk:=λ{p yk q} bc aw=>by
     obtain⟨c,L,b,rfl,g1,rfl,g2,g3⟩:=jC.out (N:=λc=>iJ γ H w c∨w.heap.size<=c) aq a8 bc aw;have hW:L.bI<w'.heap.size:=by
      obtain⟨x,av,aI⟩:=aq.bI b L g1;rw[av]at g2;exact aI.lt g2
     exact⟨L.bI,rfl,Step.eE an dC (cg b L g1 g2) hW (g3.mono λc af aO=>⟨⟨aO,af⟩,rfl⟩),RO⟩
    cases x with
    | eW q=>
      cases aK;obtain⟨c,rfl,g1,g2⟩:=eW dD aa;exact⟨_,_,U,g2,g1⟩
    | val u=>
      cases aK;obtain⟨rfl,hu⟩:=dD;obtain rfl:=aB6 aa hu;exact⟨γ,_,U,.plainCell hu,Step.below an dC⟩
    | no=>
      cases aK;cases dD;obtain⟨gg,rfl,c9⟩:=aa.Ik;obtain⟨gg⟩:=gg
      cases c9 with
      | cons cx a2=>
        cases a2 with
        | cons a2 a3=>
          cases a3;cases cx;cases a2;exact⟨γ,_,U,.tuple (.cons .EI (.cons (.bool _) .nil)),Step.below an dC⟩
    | yes q=>
      cases aK;obtain⟨p,rfl,bc⟩:=dD;obtain⟨gg,rfl,c9⟩:=aa.Ik;obtain⟨gg⟩:=gg
      cases c9 with
      | cons cx a2=>
        cases a2 with
        | cons a2 a3=>
          cases a3;obtain⟨c,rfl,g1,g2⟩:=eW bc cx;obtain rfl:=a2.qf;exact⟨_,_,U,.tuple (.cons g2 (.cons (.bool _) .nil)),g1⟩
   ·cases aK
theorem In.ok{O:da}{N:Nat->Prop}{W:World}{γ:bo}{H:ah}(h:In O N W γ H):cU ⟨0,[],none⟩ H:=⟨rfl,Nat.zero_le _,h.rel.new,λ_ _=>trivial⟩
theorem Gv(j7:G 1=true)(jb:∀g,G g=true->g=1)(db:∀m d,fT nz P G (X.K m d)){f:FuncId}{k:Rat->jn}
 (h:∀{H v q},cU ⟨0,[],none⟩ H->Tab H->iv H v q->ca q=true->Call X ⟨0,[],none⟩ f [v] H (k q).post):gY iG P G f (eM (b4 k)):=by
 refine KY j7 jb db λargs H x an base γ w dR tT aN γ0 H0 ad=>?_;unfold b4 at an;split at an
 ·rename_i a;split at an
  ·rename_i p aC
   cases aG:ca p with
   | false=>rw[aG]at an;cases an
   | true=>
     rw[aG]at an;simp only[cond_true,a6]at an;subst an
     cases aN with
     | cons U aa=>
       cases aa;obtain⟨gO,H1,jW,i1,ck,df,v1,f1⟩:=ad.lF (RQ tT aC U);exact⟨gO,H1,[jW],i1,.cons v1 .nil,h i1.ok i1.fJ f1 aG⟩
  ·cases an
 ·cases an
theorem Gw(j7:G 1=true)(jb:∀g,G g=true->g=1)(db:∀m d,fT nz P G (X.K m d)){f:FuncId}{k:Rat->Rat->jn}
 (h:∀{H v u p q},cU ⟨0,[],none⟩ H->iv H v p->iv H u q->ca p=true->ca q=true->Call X ⟨0,[],none⟩ f [v,u] H (k p q).post):gY iG P G f (eM (cB k)):=by
 refine KY j7 jb db λargs H x an base γ w dR tT aN γ0 H0 ad=>?_;unfold cB at an;split at an
 ·rename_i a b;split at an
  ·rename_i p aC;split at an
   ·rename_i q aV
    cases aG:(ca p&&ca q) with
    | false=>rw[aG]at an;cases an
    | true=>
      rw[aG]at an;simp only[cond_true,a6]at an;subst an;rw[cG]at aG
      cases aN with
      | cons U aa=>
        cases aa with
        | cons aa aq=>
          cases aq;obtain⟨gO,H1,jW,i1,ck,df,v1,f1⟩:=ad.lF (RQ tT aC U);obtain⟨dQ,aJ,hB,i2,cJ,dW,v2,f2⟩:=i1.lF (RQ tT aV aa);exact⟨dQ,aJ,[jW,hB],i2,.cons (v1.mono cJ) (.cons v2 .nil),h i2.ok (f1.le dW) f2 aG.1 aG.2⟩
   ·cases an
  ·cases an
 ·cases an
structure abt(P:Program)(G:Nat->Bool):Prop where
 abu:gY iG P G F.kp (eM Gx)
 abv:gY iG P G F.nx (eM Dp)
 abw:gY iG P G F.kG (eM KZ)
 abx:gY iG P G F.nW (eM K0)
 aby:gY iG P G F.ke (eM K1)
 abz:gY iG P G F.oG (eM K2)
 abA:gY iG P G F.k7 (eM K3)
 abB:gY iG P G F.nV (eM K4)
 abC:gY iG P G F.gE (eM K5)
 abD:gY iG P G F.tS (eM RT)
 abE:gY iG P G F.su (eM RU)
 abF:gY iG P G F.mI (eM K6)
theorem aB9(j7:G 1=true)(jb:∀g,G g=true->g=1)(db:∀m d,fT nz P G (X.K m d))(al:kr X):abt P G where
 abu:=KY j7 jb db λargs H x an base γ w dR tT aN γ0 H0 ad=>by
  unfold Gx at an;split at an
  ·rename_i n
   cases af:(decide (-9223372036854775808<=n)&&decide (n<=9223372036854775807)) with
   | false=>rw[af]at an;cases an
   | true=>
     rw[af]at an;simp only[cond_true,a6]at an;subst an;simp only[cG,eh]at af;exact⟨γ0,H0,[.int .i64 n],ad,(by cases aN with | cons U aa=>cases aa;rw[U.gC];exact .cons (.int _ _) .nil),(aCa al ad.ok af.1 af.2).mono λ_ _ h=>h.2⟩
  ·cases an
 abv:=KY j7 jb db λargs H x an base γ w dR tT aN γ0 H0 ad=>by
  unfold Dp at an;split at an
  ·rename_i s
   cases af:Nat.blt s.size 1000000 with
   | false=>rw[af]at an;cases an
   | true=>
     rw[af]at an;simp only[cond_true,a6]at an;subst an;rw[js,eh]at af;refine⟨γ0,H0,[.string s],ad,(by cases aN with | cons U aa=>cases aa;rw[U.jv];exact .cons (.str _) .nil),?_⟩;refine(aCb (l:=s.data.toList) al ad.ok ad.fJ af).mono λr H' h=>?_
     rcases h.2 with⟨e,h⟩ | ⟨q,p,e,h,aC⟩
     ·rw[e];exact h
     ·rw[e];exact⟨p,h,aC⟩
  ·cases an
 abw:=Gw j7 jb db λau U aa s1 s2=>(Xl al.tofa au U aa (ca.sz s1) (ca.sz s2) (by decide)).mono λ_ _ h=>h.2
 abx:=Gw j7 jb db λau U aa s1 s2=>(Xm al.tofa au U aa (ca.sz s1) (ca.sz s2) (by decide)).mono λ_ _ h=>h.2
 aby:=Gw j7 jb db λau U aa s1 s2=>(avW al.tofa au U aa (ca.sz s1) (ca.sz s2) (by decide)).mono λ_ _ h=>h.2
 abz:=Gw j7 jb db λ{H v u p q} au U aa s1 s2=>(avX al.tofa au U aa (ca.sz s1) (ca.sz s2) (by decide)).mono λr H' h=>by
  rcases h.2 with⟨e,h⟩ | ⟨e,x,h,aC⟩
  ·rw[bm e];exact h
  ·rw[aU e];exact⟨x,h,aC⟩
 abA:=Gw j7 jb db λau U aa s1 s2=>(av2 al.tofa au U aa (ca.sz s1) (ca.sz s2) (Dq (ca.sz s1) (ca.sz s2)) (by decide)).mono λ_ _ h=>⟨h.2,rfl⟩
 abB:=Gv j7 jb db λau _ h s=>(Xg al.tofa au h (ca.sz s) (by decide)).mono λ_ _ h=>h.2
 abC:=Gv j7 jb db λau _ h s=>(Xe al.tofa au h (ca.sz s) (by decide)).mono λ_ _ h=>⟨h.2,rfl⟩
 abD:=Gv j7 jb db λau _ h s=>(av5 al.tofa au h (ca.sz s) (by decide)).mono λ_ _ h=>h.2
 abE:=Gv j7 jb db λau _ h s=>(av3 al.tofa au h (ca.sz s) (by decide)).mono λ_ _ h=>⟨h.2,rfl⟩
 abF:=Gv j7 jb db λau aS h s=>(abG al au aS h (ca.sz s) (by decide) (by decide)).mono λ_ _ h=>⟨h.2,rfl⟩
end
section
variable{O:da}{P:Program}{W:World}
def hy(O:da)(W:World)(v':Value)(Q:ah->Value->Prop):Prop:=∀γ H,In O (λ_=>True) W γ H->∃bk H' v,In O (λ_=>True) W bk H'/\γ.le bk/\Ext H H'/\bg bk v v'/\Q H' v
def JO(Q:ah->Value->Prop):Prop:=∀H H' v,Ext H H'->Q H v->Q H' v
theorem hy.plain{v:Value}(h:plainCell v=true):hy O W v λ_ u=>u=v:=λγ H ad=>⟨γ,H,v,ad,.refl _,.refl _,.plainCell h,rfl⟩
theorem hy.imp{v:Value}{Q ha:ah->Value->Prop}(h:hy O W v Q)(g:∀H u,Q H u->ha H u):hy O W v ha:=λγ H ad=>
 let ⟨bk,H',u,a,b,c,d,e⟩:=h γ H ad;⟨bk,H',u,a,b,c,d,g _ _ e⟩
theorem hy.list{V:Nat->Value}{Q:Nat->ah->Value->Prop}(aG:∀i,JO (Q i)):∀k,(∀i,i<k->hy O W (V i) (Q i))->∀γ H,In O (λ_=>True) W γ H->
 ∃bk H',∃u:Nat->Value,In O (λ_=>True) W bk H'/\γ.le bk/\Ext H H'/\∀i,i<k->bg bk (u i) (V i)/\Q i H' (u i)
 | 0,_,γ,H,ad=>⟨γ,H,λ_=>.bool true,ad,.refl _,.refl _,λi ad=>absurd ad (od _)⟩
 | k+1,h,γ,H,ad=>by
   obtain⟨gO,H1,u,i1,ck,df,U⟩:=hy.list aG k (λi ad=>h i (by omega)) γ H ad;obtain⟨dQ,aJ,v,i2,cJ,dW,aw,aV⟩:=h k (by omega) gO H1 i1;refine⟨dQ,aJ,λi=>if i=k then v else u i,i2,ck.trans cJ,df.trans dW,λi JP=>?_⟩;by_cases e:i=k
   ·subst e;simp only[if_true];exact⟨aw,aV⟩
   ·simp only[e,if_false];obtain⟨p,q⟩:=U i (by omega);exact⟨p.mono cJ,aG i _ _ _ dW q⟩
theorem hy.nil{w:Nat}{Q:ah->Nat->List Value->Prop}:hy O W (.slice none 0 0) λH u=>hO H u 0 w (Q H):=λγ H ad=>
 ⟨γ,H,_,ad,.refl _,.refl _,.xH,none,0,rfl,bR _,λ_=>rfl,λa h=>by cases h⟩
theorem hy.slice{a:Addr}{len cap w:Nat}{V:Nat->Value}{Q:Nat->ah->Value->Prop}(aG:∀i,JO (Q i))(aO:len<=cap)(hw:0<w)(eI:∀j,j<cap*w->W.cell? (a.add j)=some (V j))(h:∀j,j<len*w->hy O W (V j) (Q j)):
 hy O W (.slice (some a) len cap) λH v=>hO H v len w λi cs=>∃u:Nat->Value,cs=(List.range w).map (λk=>u (i*w+k))/\∀k,k<w->Q (i*w+k) H (u (i*w+k)):=by
 intro γ H ad;obtain⟨gO,H1,u,i1,ck,df,U⟩:=hy.list aG (len*w) h γ H ad;have hlen:((List.range (len*w)).map u).length=len*w:=by simp
 have an:cm gO ((List.range (len*w)).map u) ((List.range (len*w)).map V):=cm.vD (by simp) λi v v' p q=>by
  rw[bZE]at p q;by_cases z6:i<len*w
  ·rw[bYJ z6]at p q;cases p;cases q;exact(U i z6).1
  ·rw[jq (by simpa using z6)]at p;cases p
 obtain⟨j9,g1,g2,_⟩:=i1.FE;obtain⟨b,o,ay2,tT⟩:∃b o,wz W (λ_=>True) b o ((List.range (len*w)).map V)/\bg (gO.set H1.next ⟨b,o,0,0⟩) (.slice (some ⟨H1.next,0,none⟩) len cap) (.slice (some a) len cap):=by
  by_cases af:cap=0
  ·subst af;obtain rfl:len=0:=by omega
   obtain⟨c,e,cz,c9⟩:=i1.Qj;exact⟨1,0,⟨trivial,c,e,cz,c9,by simp,by simp⟩,.p9 (bo.im _ _ _)⟩
  ·have nR:0<cap*w:=bYM (by omega) hw;have aD:=eI 0 nR;obtain⟨b,o,sp⟩:=a;have sk:sp=none:=by simpa [Addr.add]using World.cell?_spot aD
   subst sk;obtain⟨c,elem,cz,c9⟩:∃c elem cz,W.heap[b]? = some (.cells c elem cz):=by
    unfold World.cell? at aD;split at aD
    ·rename_i c e f c9;exact⟨c,e,f,by simpa [Addr.add]using c9⟩
    ·cases aD
   have mW:∀i,i<cap*w->c[o+i]? = some (V i):=by
    intro i ad;have aa:=eI i ad;rw[add_eq]at aa;simpa [World.cell?,c9]using aa
   have Qk:=(ic.1 (mW (cap*w-1) (by omega))).1;have hle:len*w<=cap*w:=hQ _ aO;refine⟨b,o,⟨trivial,c,elem,cz,c9,by simp;omega,λi v e=>?_⟩,?_⟩
   ·rw[bZE]at e;by_cases z6:i<len*w
    ·rw[bYJ z6]at e;cases e;exact mW i (by omega)
    ·rw[jq (by simpa using z6)]at e;cases e
   ·have:=bg.jN (γ:=gO.set H1.next ⟨b,o,0,0⟩) (b:=H1.next) (off:=0) (n:=len) (cap:=cap) (dN:=cap) (L:=⟨b,o,0,0⟩) (bo.im _ _ _) (bR _) aO (.inl rfl);simpa using this
 obtain⟨i2,cJ,dW⟩:=i1.add ay2 an;refine⟨_,_,_,i2,ck.trans cJ,df.trans dW,tT,_,cap,rfl,aO,(λh=>by cases h),λa h=>?_⟩;cases h;refine⟨H1.next,0,_,rfl,.inl dT,by simp,λi ad=>⟨_,CG ?_,u,?_,λk ag=>aG _ _ _ _ dW (U _ ?_).2⟩⟩
 ·have:i*w+w<=len*w:=by rw[<-bZz];exact hQ _ ad
  simp;omega
 ·apply bYj;intro k;by_cases ag:k<w
  ·have:i*w+w<=len*w:=by rw[<-bZz];exact hQ _ ad
   rw[pT ag,o',bZE,bZE,bYJ ag,bYJ (by omega),Nat.zero_add];rfl
  ·rw[jq (by simp;omega),jq (by simpa using ag)]
 ·have:i*w+w<=len*w:=by rw[<-bZz];exact hQ _ ad
  omega
theorem JQ{v:Value}:JO λ_ u=>u=v:=λ_ _ _ _ h=>h
theorem hO.zg{m w:Nat}{P:Nat->List Value->Prop}:JO λH v=>hO H v m w P:=λ_ _ _ e h=>hO.imp h e λ_ _ _ h=>h
def iB:Value->List UInt8
 | .string s=>s.data.toList
 | _=>[]
def z7:Value->Int
 | .int _ n=>n
 | _=>0
def JR:Value->Bool
 | .bool b=>b
 | _=>false
def oR(v:Value):Prop:=∃s,v=.string s
def yh(v:Value):Prop:=∃n,v=.int .i64 n
def CN(v:Value):Prop:=∃b,v=.bool b
theorem oR.st{v:Value}(h:oR v):v=aW (iB v):=by obtain⟨s,rfl⟩:=h;rfl
theorem yh.int{v:Value}(h:yh v):v=.int .i64 (z7 v):=by obtain⟨s,rfl⟩:=h;rfl
theorem CN.bool{v:Value}(h:CN v):v=.bool (JR v):=by obtain⟨s,rfl⟩:=h;rfl
theorem oR.lift{v:Value}(h:oR v):hy O W v λ_ u=>u=v:=by obtain⟨s,rfl⟩:=h;exact .plain rfl
theorem yh.lift{v:Value}(h:yh v):hy O W v λ_ u=>u=v:=by obtain⟨s,rfl⟩:=h;exact .plain rfl
theorem CN.lift{v:Value}(h:CN v):hy O W v λ_ u=>u=v:=by obtain⟨s,rfl⟩:=h;exact .plain rfl
def FF(W:World)(w:Nat)(v:Value)(E:(Nat->Value)->Prop):Prop:=v=.slice none 0 0∨∃a len cap,∃V:Nat->Value,v=.slice (some a) len cap/\len<=cap/\(∀j,j<cap*w->W.cell? (a.add j)=some (V j))/\∀i,i<cap->E λk=>V (i*w+k)
def B7(W:World)(v:Value):Prop:=FF W 1 v λV=>oR (V 0)
def I3(W:World)(v:Value):Prop:=FF W 2 v λV=>yh (V 0)/\oR (V 1)
def I4(W:World)(v:Value):Prop:=FF W 5 v λV=>oR (V 0)/\oR (V 1)/\oR (V 2)/\oR (V 3)/\CN (V 4)
def RowsIn(W:World)(v:Value):Prop:=FF W 5 v λV=>oR (V 0)/\yh (V 1)/\I3 W (V 2)/\oR (V 3)/\oR (V 4)
theorem B7.lift{v:Value}(h:B7 W v):∃l,hy O W v λH u=>kh H u l:=by
 rcases h with rfl | ⟨a,len,cap,V,rfl,aO,eI,bz⟩
 ·exact⟨[],λγ H ad=>⟨γ,H,_,ad,.refl _,.refl _,.xH,kh.nil⟩⟩
 ·refine⟨(List.range len).map λi=>iB (V i),(hy.slice (w:=1) (Q:=λj _ u=>u=V j) (λ_=>JQ) aO (by decide) eI λj aH=>?_).imp λH u h=>?_⟩
  ·have:=bz j (by omega);simp only[Nat.mul_one,Nat.add_zero]at this;exact this.lift
  ·obtain⟨base,cap,rfl,_,aD,U⟩:=h;refine⟨base,cap,by simp,λi ad=>?_⟩;have ad:i<len:=by simpa using ad
   cases base with
   | none=>have:=aD rfl;omega
   | some a=>
     obtain⟨b,off,row,rfl,aa,aq,a8⟩:=U _ rfl;obtain⟨cs,cg,u,rfl,dj⟩:=a8 i ad;have j4:=dj 0 (by decide);simp only[Nat.mul_one,Nat.add_zero]at j4;have Ei:=(Fy cg).2;have mm:=congrArg (λl=>l[0]?) Ei;simp[j4]at mm;have aG:=bz i (by omega);simp only[Nat.mul_one,Nat.add_zero]at aG;exact aa.elim (λaa=>⟨b,off,_,row,V i,rfl,aa,rfl,mm.symm,iB (V i),by simp[ad],aG.st⟩) λaa=>⟨b,off,_,row,V i,rfl,aa,rfl,mm.symm,iB (V i),by simp[ad],aG.st⟩
theorem I3.lift{v:Value}(h:I3 W v):∃l:List fb,hy O W v λH u=>hO H u l.length 2 λi cs=>∃c,l[i]? = some c/\cs=c.cells:=by
 rcases h with rfl | ⟨a,len,cap,V,rfl,aO,eI,bz⟩
 ·exact⟨[],hy.nil⟩
 ·refine⟨(List.range len).map λi=>⟨z7 (V (i*2+0)),iB (V (i*2+1))⟩,(hy.slice (w:=2) (Q:=λj _ u=>u=V j) (λ_=>JQ) aO (by decide) eI λj aH=>?_).imp λH u h=>?_⟩
  ·obtain⟨U,aa⟩:=bz (j/2) (by omega);have e:j=j/2*2+0∨j=j/2*2+1:=by omega
   rcases e with e | e<;>rw[e]
   ·exact U.lift
   ·exact aa.lift
  ·simp only[bYS,bXB];refine hO.imp h (λ_ _ e=>e) λi cs ad ⟨u,e,hu⟩=>⟨⟨z7 (V (i*2+0)),iB (V (i*2+1))⟩,by simp[ad],?_⟩;obtain⟨U,aa⟩:=bz i (by omega);have cY:=hu 0 (by decide);have ao:=hu 1 (by decide);rw[e];show[u (i*2+0),u (i*2+1)]=_;rw[cY,ao];show[V (i*2+0),V (i*2+1)]=[.int .i64 (z7 (V (i*2+0))),aW (iB (V (i*2+1)))];rw[<-U.int,<-aa.st]
theorem I4.lift{v:Value}(h:I4 W v):∃l:List eu,hy O W v λH u=>hO H u l.length 5 λi cs=>∃c,l[i]? = some c/\cs=c.cells:=by
 rcases h with rfl | ⟨a,len,cap,V,rfl,aO,eI,bz⟩
 ·exact⟨[],hy.nil⟩
 ·refine⟨(List.range len).map λi=>⟨iB (V (i*5+0)),iB (V (i*5+1)),iB (V (i*5+2)),iB (V (i*5+3)),JR (V (i*5+4))⟩,(hy.slice (w:=5) (Q:=λj _ u=>u=V j) (λ_=>JQ) aO (by decide) eI λj aH=>?_).imp λH u h=>?_⟩
  ·obtain⟨aD,U,aa,aq,a8⟩:=bz (j/5) (by omega);have e:j=j/5*5+0∨j=j/5*5+1∨j=j/5*5+2∨j=j/5*5+3∨j=j/5*5+4:=by omega
   rcases e with e | e | e | e | e<;>rw[e]
   ·exact aD.lift
   ·exact U.lift
   ·exact aa.lift
   ·exact aq.lift
   ·exact a8.lift
  ·simp only[bYS,bXB];refine hO.imp h (λ_ _ e=>e) λi cs ad ⟨u,e,hu⟩=>⟨⟨iB (V (i*5+0)),iB (V (i*5+1)),iB (V (i*5+2)),iB (V (i*5+3)),JR (V (i*5+4))⟩,by simp[ad],?_⟩;obtain⟨aD,U,aa,aq,a8⟩:=bz i (by omega);rw[e];show[u (i*5+0),u (i*5+1),u (i*5+2),u (i*5+3),u (i*5+4)]=[aW (iB (V (i*5+0))),aW (iB (V (i*5+1))),aW (iB (V (i*5+2))),aW (iB (V (i*5+3))),.bool (JR (V (i*5+4)))];rw[hu 0 (by decide),hu 1 (by decide),hu 2 (by decide),hu 3 (by decide),hu 4 (by decide),<-aD.st,<-U.st,<-aa.st,<-aq.st,<-a8.bool]
theorem RowsIn.lift{v:Value}(h:RowsIn W v):∃l:List di,hy O W v λH u=>CF H u l:=by
 rcases h with rfl | ⟨a,len,cap,V,rfl,aO,eI,bz⟩
 ·exact⟨[],λγ H ad=>⟨γ,H,_,ad,.refl _,.refl _,.xH,none,0,rfl,bR _,λ_=>rfl,λa h=>by cases h⟩⟩
 ·have af:∀i,∃l:List fb,i<cap->hy O W (V (i*5+2)) λH u=>hO H u l.length 2 λi cs=>∃c,l[i]? = some c/\cs=c.cells:=λi=>by
   by_cases ad:i<cap
   ·obtain⟨l,h⟩:=(bz i ad).2.2.1.lift (O:=O);exact⟨l,λ_=>h⟩
   ·exact⟨[],λh=>absurd h ad⟩
  obtain⟨co,Fh⟩:∃co:Nat->List fb,∀i,i<cap->hy O W (V (i*5+2)) λH u=>hO H u (co i).length 2 λiq cs=>∃c,(co i)[iq]? = some c/\cs=c.cells:=⟨λi=>(af i).choose,λi=>(af i).choose_spec⟩
  refine⟨(List.range len).map λi=>⟨iB (V (i*5+0)),z7 (V (i*5+1)),co i,iB (V (i*5+3)),iB (V (i*5+4))⟩,
   (hy.slice (w:=5) (Q:=λj H u=>if j%5=2 then hO H u (co (j/5)).length 2 λiq cs=>∃c,(co (j/5))[iq]? = some c/\cs=c.cells else u=V j) (λj=>?_) aO (by decide) eI λj aH=>?_).imp λH u h=>?_⟩
  ·by_cases e:j%5=2
   ·simp only[e,if_true];exact hO.zg
   ·simp only[e,if_false];exact JQ
  ·obtain⟨aD,U,aa,aq,a8⟩:=bz (j/5) (by omega);have e:j=j/5*5+0∨j=j/5*5+1∨j=j/5*5+2∨j=j/5*5+3∨j=j/5*5+4:=by omega
   rcases e with e | e | e | e | e
   ·simp only[show ¬j%5=2 by omega,if_false];rw[e];exact aD.lift
   ·simp only[show ¬j%5=2 by omega,if_false];rw[e];exact U.lift
   ·have:=Fh (j/5) (by omega);rw[<-e]at this;simp only[show j%5=2 by omega,if_true];exact this
   ·simp only[show ¬j%5=2 by omega,if_false];rw[e];exact aq.lift
   ·simp only[show ¬j%5=2 by omega,if_false];rw[e];exact a8.lift
  ·unfold CF;simp only[bYS,bXB];refine hO.imp h (λ_ _ e=>e) λi cs ad ⟨u,e,hu⟩=>⟨⟨iB (V (i*5+0)),z7 (V (i*5+1)),co i,iB (V (i*5+3)),iB (V (i*5+4))⟩,u (i*5+2),by simp[ad],?_,?_⟩
   ·obtain⟨aD,U,aa,aq,a8⟩:=bz i (by omega);have u0:=hu 0 (by decide);have fQ:=hu 1 (by decide);have fu:=hu 3 (by decide);have eX:=hu 4 (by decide);rw[aU (by omega)]at u0 fQ fu eX;rw[e];show[u (i*5+0),u (i*5+1),u (i*5+2),u (i*5+3),u (i*5+4)]=[aW (iB (V (i*5+0))),.int .i64 (z7 (V (i*5+1))),u (i*5+2),aW (iB (V (i*5+3))),aW (iB (V (i*5+4)))];rw[u0,fQ,fu,eX,<-aD.st,<-U.int,<-aq.st,<-a8.st]
   ·have fm:=hu 2 (by decide);rw[bm (by omega),show(i*5+2)/5=i by omega]at fm;exact fm
def I5(W:World)(v:Value):Prop:=∃v1 v2,v=.agg #[v1,v2]/\I4 W v1/\RowsIn W v2
def Fb(W:World)(v:Value):Prop:=∃v0 v1 v2 v3 v4,v=.agg #[v0,v1,v2,v3,v4]/\yh v0/\oR v1/\B7 W v2/\B7 W v3/\B7 W v4
theorem I5.lift{v:Value}(h:I5 W v):∃lp:bD,hy O W v λH u=>x' H u lp:=by
 obtain⟨v1,v2,rfl,U,aa⟩:=h;obtain⟨aj,ck⟩:=U.lift (O:=O);obtain⟨rows,cJ⟩:=aa.lift (O:=O);refine⟨⟨aj,rows⟩,λγ H ad=>?_⟩;obtain⟨gO,H1,fQ,i1,ao,df,b4,bn⟩:=ck γ H ad;obtain⟨dQ,aJ,fm,i2,e2,dW,cB,bh⟩:=cJ gO H1 i1;exact⟨dQ,aJ,.agg #[fQ,fm],i2,ao.trans e2,df.trans dW,.agg (.cons (b4.mono e2) (.cons cB .nil)),fQ,fm,rfl,hO.zg _ _ _ dW bn,bh⟩
theorem Fb.lift{v:Value}(h:Fb W v):∃a:iz,hy O W v λH u=>ur H u a:=by
 obtain⟨v0,v1,v2,v3,v4,rfl,aD,U,aa,aq,a8⟩:=h;obtain⟨x,cJ⟩:=aa.lift (O:=O);obtain⟨d,eT⟩:=aq.lift (O:=O);obtain⟨r,hP⟩:=a8.lift (O:=O);obtain⟨n,rfl⟩:=aD;obtain⟨s,rfl⟩:=U;refine⟨⟨n,s.data.toList,x,d,r⟩,λγ H ad=>?_⟩;obtain⟨dQ,aJ,fm,i2,e2,dW,cB,bh⟩:=cJ γ H ad;obtain⟨NG,bN,fu,i3,bd,gZ,dh,cu⟩:=eT dQ aJ i2;obtain⟨ay3,cp,eX,i4,b1,jz,kf,e9⟩:=hP NG bN i3;exact⟨ay3,cp,.agg #[.int .i64 n,.string s,fm,fu,eX],i4,(e2.trans bd).trans b1,(dW.trans gZ).trans jz,.agg (.cons (.int _ _) (.cons (.str _) (.cons ((cB.mono bd).mono b1) (.cons (dh.mono b1) (.cons kf .nil))))),fm,fu,eX,rfl,bh.ext (gZ.trans jz),cu.ext jz,e9⟩
section
variable{CO:Type}{enc:TypeId×Value->CO}{base:Nat}{held:Bool}
theorem I2{t e fuel w:Nat}{v:Value}{x:DataW CO×List MemPlace}{E:(Nat->Value)->Prop}(aS:P.underlying t=some (.slice e))(af:P.cellsOf e=w)(h:DataW.trod enc P W base (λ_=>true) held fuel t [v]=some x)
 (bz:∀(V:Nat->Value) n y,DataW.trod enc P W base (λ_=>true) held n e ((List.range w).map V)=some y->E V):FF W w v E:=by
 rcases Deep.open_slice aS h with⟨ao,_⟩ | ⟨a,len,cap,m,n,D,Zc,ao,_,aO,_,hm,_,az⟩
 ·exact .inl (by simpa using ao)
 ·have hm:m=cap:=by simpa using hm
  subst hm;rw[af]at az;refine .inr ⟨a,len,m,λj=>(W.cell? (a.add j)).getD (.bool true),by simpa using ao,aO,?_⟩;have mW:∀i,i<m->∃cs,cs.length=w/\(∀k,k<w->W.cell? (a.add (i*w+k))=cs[k]?)/\DataW.trod enc P W base (λ_=>true) held n e cs=some (D i,Zc i):=λi ad=>by
   obtain⟨cs,U,aa⟩:=az i ad;obtain⟨_,aq,a8⟩:=World.cells?_some U;exact⟨cs,aq,λk ag=>by rw[<-a8 k ag,Deep.add_add],aa⟩
  refine⟨λj aH=>?_,λi ad=>?_⟩
  ·have hw:0<w:=tq λe=>by subst e;simp at aH
   obtain⟨cs,U,aa,_⟩:=mW (j/w) (bYI (by rw[gw];exact aH));have aq:=aa (j%w) (bYe _ hw);rw[show j/w*w+j%w=j by rw[gw];exact bXl j w]at aq;rw[hG (by rw[U];exact bYe _ hw)]at aq;show _=some ((W.cell? (a.add j)).getD _);rw[aq];rfl
  ·obtain⟨cs,U,aa,aq⟩:=mW i ad;refine bz _ n (D i,Zc i) ?_;rw[<-aq];congr 1;apply bYj;intro k;by_cases ag:k<w
   ·rw[bZE,bYJ ag,<-aa k ag];have:=aa k ag;rw[hG (by omega)]at this;rw[this];simp[this]
   ·rw[jq (by simpa using ag),jq (by omega)]
theorem lY{e fuel:Nat}{fs:Array Field}{cs:List Value}{x:DataW CO×List MemPlace}{i:Nat}{f:Field}{u:Value}(aS:P.underlying e=some (.struct fs))(h:DataW.trod enc P W base (λ_=>true) held fuel e cs=some x)
 (bc:fs[i]? = some f) (af:P.cellsOf f.type=1) (hu:cs[f.offset]? = some u):∃n y,DataW.trod enc P W base (λ_=>true) held n f.type [u]=some y:=by
 obtain⟨xs,n,_,_,_,hlen,az⟩:=DataW.trod_struct aS h;have U:=az i f bc;have ad:=(ic.1 bc).1;have e:(cs.drop f.offset).take 1=[u]:=by
  apply bYj;intro k
  cases k with
  | zero=>simp[hu]
  | succ k=>simp[List.getElem?_take]
 rw[af,e,hG (by omega)]at U;exact⟨n,_,U⟩
theorem tV{t fuel:Nat}{u:Value}{y:DataW CO×List MemPlace}(aS:P.underlying t=some .string)(h:DataW.trod enc P W base (λ_=>true) held fuel t [u]=some y):oR u:=by
 obtain⟨s,e,_⟩:=DataW.trod_string aS h;exact⟨s,by simpa using e⟩
theorem N4{t fuel:Nat}{u:Value}{y:DataW CO×List MemPlace}(aS:P.underlying t=some (.int .i64))(h:DataW.trod enc P W base (λ_=>true) held fuel t [u]=some y):yh u:=by
 obtain⟨s,e,_⟩:=DataW.trod_int aS h;exact⟨s,by simpa using e⟩
theorem aw5{t fuel:Nat}{u:Value}{y:DataW CO×List MemPlace}(aS:P.underlying t=some .bool)(h:DataW.trod enc P W base (λ_=>true) held fuel t [u]=some y):CN u:=by
 obtain⟨s,e,_⟩:=DataW.trod_bool aS h;exact⟨s,by simpa using e⟩
end
end
end Go.Dam.C
