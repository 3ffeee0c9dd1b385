/- What the functions of the program compute, for every input. -/
import Derived.Test.YtdfknhpaomclpaaGreatDoorLawC
import Derived.Test.YtdfknhpaomclpaaGreatDoorLawB
import Derived.Test.YtdfknhpaomclpaaGreatDoorDamB
import Derived.Deep.Slices
import Derived.SliceStrings
namespace Go.Dam.C
section
variable{lp:bD}{T:b8}{P:cr}
theorem aad:dB 0=[48]:=by
 have:Lib.decDigits 0=[48]:=by rw[Lib.decDigits_one (by decide)];rfl
 simp[dB,this]
theorem azW:dB 1=[49]:=by
 have:Lib.decDigits 1=[49]:=by rw[Lib.decDigits_one (by decide)];rfl
 have h:¬(1:Rat)<0:=by decide
 simp[dB,this,h]
theorem azX:dB (-1)=[45,49]:=by
 have:Lib.decDigits 1=[49]:=by rw[Lib.decDigits_one (by decide)];rfl
 have h:(-1:Rat)<0:=by decide
 have U:(-1:Rat).num.natAbs=1:=by decide
 have aa:(-1:Rat).den=1:=by decide
 simp[dB,this,h, aa]
theorem aae{d:Nat->Rat}{i:Nat}:∀{K:Nat},(∀k,k<K->T.aj k≠P.n+i)->rS P T d K i=[48]
 | 0,_=>rfl
 | K+1,h=>by rw[rS,aU (h K (by omega)),aae λk ag=>h k (by omega)]
theorem aaf(bj:fh P T){d:Nat->Rat}{i k:Nat}:∀{K:Nat},K<=P.n->k<K->T.aj k=P.n+i->rS P T d K i=dB (d k)
 | K+1,db,ag,e=>by
   rw[rS];by_cases h:k=K
   ·subst h;rw[bm e]
   ·rw[aU λe2=>h (bj.ci k K (by omega) (by omega) (e.trans e2.symm)),aaf bj (by omega) (by omega) e]
theorem aag(bj:fh P T)(d:Nat->Rat)(i:Nat):rS P T d P.n i=dB (lu P T d (P.n+i)):=by
 rcases Km bj d (P.n+i) with⟨k,ag,ao,e2⟩ | ⟨h,e⟩
 ·rw[e2,aaf bj (bR _) ag ao]
 ·rw[e,aae h,aad]
theorem aah(bj:fh P T){a:Nat}(aN:a<P.m)(au:off P T.v (T.rows a)≠0)(i:Nat):qQ P T a i=dB (jJ P T a (P.n+i)):=by
 unfold qQ;by_cases h:T.rows a=P.n+i
 ·rw[bm h,<-h,Kn bj aN]
  rcases Ab au with e | e<;>rw[e]
  ·rw[bm (by decide)];exact azW.symm
  ·rw[aU (by decide)];exact azX.symm
 ·rw[aU h,Q4 (Ne.symm h),aag bj]
theorem aai(bj:fh P T){col:Nat}{way:Int}{i:Nat}(ad:i<P.m):∀{K:Nat},K<=P.m->i<K->oX T col way K (T.rows i)=dB (T.M i col*(way:Rat))
 | K+1,db,h=>by
   rw[oX];by_cases e:i=K
   ·subst e;rw[bm rfl]
   ·rw[aU λe2=>e (bj.qM i K ad (by omega) e2),aai bj ad (by omega) (by omega)]
theorem aaj(bj:fh P T){col:Nat}{way:Int}(af:col<P.n){k:Nat}(ag:k<P.n):∀{K:Nat},K<=P.m->oX T col way K (T.aj k)=dB (if k=col then(way:Rat) else 0)
 | 0,_=>by
   rw[oX];by_cases e:k=col
   ·subst e;rw[bm rfl,bm rfl]
   ·rw[aU λe2=>e (bj.ci k col ag af e2),aU e,aad]
 | K+1,db=>by rw[oX,aU λe=>bj.rc K k (by omega) ag e.symm,aaj bj af ag (by omega)]
theorem azY(bj:fh P T){col:Nat}{way:Int}(af:col<P.n){x:Nat}(az:x<P.n+P.m):oX T col way P.m x=dB (kU P T col way x):=by
 rcases bj.mE x az with⟨i,ad,rfl⟩ | ⟨k,ag,rfl⟩
 ·rw[CT bj af ad,aai bj ad (bR _) ad]
 ·rw[uF bj af ag,aaj bj af ag (bR _)]
theorem Aj{m:Nat}{f:Nat->Rat}{i:Nat}(ad:i<m)(h:cP kV (f i)):e1 ((List.range m).map λi=>dB (f i)) i=f i:=by
 unfold e1;rw[ob,bZv,bYl ad];exact h.rd
theorem CY(hm:lp.dP=true){m:Nat}{f:Nat->Rat}(h:∀i,i<m->cP kV (f i)):h5 lp ((List.range m).map λi=>dB (f i)) m=true:=by
 unfold h5;rw[hm];simp only[bYm,bYK,decide_true,Bool.and_true];rw[hz];intro s aG;obtain⟨i,ad,rfl⟩:=bZx.1 aG;exact(h i (bZJ.1 ad)).isNum
theorem F'{m:Nat}(hm:m<=1000){f:Nat->Rat}(h:∀i,i<m->cP kV (f i)):qy ((List.range m).map λi=>dB (f i)):=by
 refine⟨by simp;omega,λs aG=>?_⟩;obtain⟨i,ad,rfl⟩:=bZx.1 aG;exact(h i (bZJ.1 ad)).len
theorem sW.congr{x cZ:Nat->Rat}(h:sW lp x)(e:∀j,j<lp.aj.length->cZ j=x j):sW lp cZ:=
 ⟨λj aH=>by rw[e j aH];exact h.c j aH,λi ad=>by
  rw[show nw lp cZ i=nw lp x i from eB λj aH=>by rw[e j aH]];exact h.r i ad⟩
theorem aak{x cZ:Nat->Rat}(e:∀j,j<lp.aj.length->cZ j=x j):lp.nh cZ=lp.nh x:=eB λj aH=>by rw[e j aH]
theorem Ai.congr{x cZ:Nat->Rat}(h:Ai lp x)(e:∀j,j<lp.aj.length->cZ j=x j):Ai lp cZ:=
 ⟨λj aH=>by rw[e j aH];exact h.c j aH,λi ad=>by
  rw[show nw lp cZ i=nw lp x i from eB λj aH=>by rw[e j aH]];exact h.r i ad,by rw[aak e];exact h.n⟩
theorem Q5{B:Nat}{q:Rat}(h:cP B q):cP B (-q):=by
 unfold cP at*
 rw[Rat.neg_num,Rat.neg_den,Int.natAbs_neg];exact h
theorem aal{B:Nat}(h:1<=B):cP B 1:=⟨h,h⟩
theorem aam{B:Nat}(dC:1<=B){w:Int}(h:w=1∨w=-1):cP B (w:Rat):=by
 rcases h with rfl | rfl
 ·exact aal dC
 ·exact Q5 (aal dC)
theorem aan{B:Nat}{q:Rat}(h:cP B q){w:Int}(hw:w=1∨w=-1):cP B (q*(w:Rat)):=by
 rcases hw with rfl | rfl
 ·have:q*((1:Int):Rat)=q:=by simp
  rw[this];exact h
 ·have:q*((-1:Int):Rat)=-q:=by simp;grind
  rw[this];exact Q5 h
theorem Ko:1<=kV:=bVt 1900
theorem aao(bj:fh P T){e:Nat->Rat}{B:Nat}(dC:1<=B)(h:∀k,k<P.n->cP B (e k))(x:Nat):cP B (lu P T e x):=by
 rcases Km bj e x with⟨k,ag,_,e2⟩ | ⟨_,e2⟩
 ·rw[e2];exact h k ag
 ·rw[e2];exact Af dC
theorem azZ{a b:Nat}{p q:Rat}(aC:cP a p)(aV:cP b q):cP (a*b+b*a) (p-q):=by
 have e:(p-q)*((p.den:Rat)*(q.den:Rat))=((p.num*q.den-q.num*p.den:Int):Rat):=by
  simp only[Rat.intCast_sub,bYN,<-Ad p,<-Ad q,q3];grind
 refine FW e ⟨_,rfl,?_⟩ (⟨((p.den*q.den:Nat):Int),?_,bR _⟩:fz _ (p.den*q.den)) ?_ (bR _) ?_
 ·refine bH (Int.natAbs_sub_le _ _) ?_;rw[bZS,bZS];exact Nat.add_le_add (ie aC.1 aV.2) (ie aV.1 aC.2)
 ·rw[q3,Rat.natCast_mul]
 ·intro h
  rcases bYf.1 h with h | h
  ·exact p.den_nz (by exact_mod_cast h)
  ·exact q.den_nz (by exact_mod_cast h)
 ·exact bH (ie aC.2 aV.2) (hS _ _)
end
section
variable{lp:bD}{T:b8}
theorem az0{lp:bD}{T:b8}{col:Nat}(he:enters lp.aX lp.cs T=some col):gl lp.aX lp.cs T col=1∨gl lp.aX lp.cs T col=-1:=by
 obtain⟨_,gy,_⟩:=n2 he;simp only[cG,eh]at gy;unfold gl
 rcases lq gy.1 with⟨_,e⟩ | ⟨_,e⟩<;>rw[e]<;>simp
theorem j0.az1(h:iA lp)(bK:j0 lp.aX (hE lp) T){col:Nat}(af:col<lp.aj.length){way:Int}(hw:way=1∨way=-1){x:Nat}(az:x<lp.aj.length+lp.rows.length):cP kV (kU lp.aX T col way x):=by
 rcases bK.inv.bj.mE x az with⟨i,ad,rfl⟩ | ⟨k,ag,rfl⟩
 ·rw[CT bK.inv.bj af ad];exact aan (sV (bK.Kg h ad af) (by decide)) hw
 ·rw[uF bK.inv.bj af ag];split
  ·exact aam Ko hw
  ·exact Af Ko
theorem az2{P:cr}{B a k:Nat}(h:cP B (T.M a k)):cP B (mH P T a k):=by
 unfold mH;split
 ·exact Q5 h
 ·exact h
theorem aap{P:cr}(bj:fh P T){B a:Nat}(dC:1<=B)(aN:a<P.m)(au:off P T.v (T.rows a)≠0)(h:∀k,k<P.n->cP B (T.M a k))(x:Nat):cP B (jJ P T a x):=by
 by_cases e:x=T.rows a
 ·rw[e,Kn bj aN];exact aam dC (Ab au)
 ·rw[Q4 e];exact aao bj dC (λk ag=>az2 (h k ag)) x
theorem az3{P:cr}{V x:Nat}(eI:F0 P V)(w:Int):cP V (goal P x w):=by
 unfold goal;split
 ·cases e:P.up x with
  | none=>exact Af eI.v1
  | some u=>exact eI.up x u e
 ·cases e:P.lo x with
  | none=>exact Af eI.v1
  | some u=>exact eI.lo x u e
theorem az4(h:iA lp)(bK:j0 lp.aX (hE lp) T){a:Nat}(aN:a<lp.rows.length)(au:off lp.aX T.v (T.rows a)≠0):cP kV (qP lp.aX T a):=by
 have U:=azZ (az3 (x:=T.rows a) h.F4 (off lp.aX T.v (T.rows a))) (bK.F8 h (bK.inv.bj.r a aN));have aa:hc*bZg 1660+bZg 1660*hc<=bZg 1900:=by
  have e:hc*bZg 1660=bZg 1690:=by rw[show hc=bZg 30 from(bZp 30).symm];exact bXv (by decide)
  rw[gw (bZg 1660),e];have:bZg 1900=bZg 210*bZg 1690:=(bXv (by decide)).symm;rw[this];have az5:2<=bZg 210:=bH (show 2<=bZg 1 by rw[bZp];decide) (bYU (by decide));have:=hQ (bZg 1690) az5;generalize bZg 1690=p at*
  omega
 have aq:cP kV (goal lp.aX (T.rows a) (off lp.aX T.v (T.rows a))-T.v (T.rows a)):=U.mono (show _<=kV by unfold kV;exact aa);unfold qP;rw[bZY];exact aan aq (Ab au)
theorem aym(h:iA lp)(hm:lp.dP=true){c:iz}(aG:CZ lp (wC lp.aX (hE lp)) (uG lp.aX (hE lp)) c):kQ lp c=true/\c.ok:=by
 have Q6:=h.n;have Ga:=h.m
 rcases aG with⟨T,a,bK,hw,c9⟩ | ⟨T,col,bK,he,iE⟩ | ⟨T,bK,he⟩
 ·obtain⟨aN,au,_⟩:=n2 hw;have au:off lp.aX T.v (T.rows a)≠0:=by simpa using au
  have uJ:∀i,i<lp.rows.length->cP kV (jJ lp.aX T a (lp.aj.length+i)):=λi _=>aap bK.1.inv.bj Ko aN au (λk ag=>sV (bK.1.Kg h aN ag) (by decide)) _;have az:(List.range lp.aX.m).map (qQ lp.aX T a)=(List.range lp.rows.length).map λi=>dB (jJ lp.aX T a (lp.aj.length+i)):=bXc λi ad=>aah bK.1.inv.bj aN au i;rw[az];have ai:gR lp ((List.range lp.rows.length).map λi=>dB (jJ lp.aX T a (lp.aj.length+i))) false=some (qP lp.aX T a):=by
   unfold gR;rw[bm (CY hm uJ)];exact(QY hm).2 (azT hm bK.1.inv bK.2 hw c9 λi ad=>Aj ad (uJ i ad))
  refine⟨?_,⟨⟨by simp,by simp⟩,F' (by omega) uJ,⟨by simp,by simp⟩⟩⟩;unfold kQ;rw[aU (show ¬((2:Int)=1) by decide),bm rfl];simp only[ai,jj,(az4 h bK.1 aN au).rd];simp[azS au]
 ·obtain⟨d',_,_⟩:=n2 he;have kn:=az0 he;have rT:∀j,j<lp.aj.length->cP kV (T.v j):=λj aH=>sV (bK.1.F8 h (by omega)) (by decide);have ya:∀j,j<lp.aj.length->cP kV (kU lp.aX T col (gl lp.aX lp.cs T col) j):=λj aH=>bK.1.az1 h d' kn (by omega);have az:(List.range lp.aX.n).map (oX T col (gl lp.aX lp.cs T col) lp.aX.m)=(List.range lp.aj.length).map λj=>dB (kU lp.aX T col (gl lp.aX lp.cs T col) j):=bXc λj aH=>azY bK.1.inv.bj d' (by have:=bZJ.1 aH;omega);rw[az];have aC:nv lp T=(List.range lp.aj.length).map λj=>dB (T.v j):=rfl;have bc:lg lp (nv lp T)=true:=by
   unfold lg;rw[aC,show lp.aj.length=lp.aj.length from rfl,CY hm rT,Bool.true_and];exact(QX hm).2 ((uE.fits hm bK.1.inv bK.2).congr λj aH=>Aj aH (rT j aH))
  have an:pw lp ((List.range lp.aj.length).map λj=>dB (kU lp.aX T col (gl lp.aX lp.cs T col) j))=true:=by
   unfold pw;rw[CY hm ya,Bool.true_and];exact(Z4 hm).2 ((azV hm bK.1.inv he iE).congr λj aH=>Aj aH (ya j aH))
  refine⟨?_,⟨aC▸F' (by omega) rT,⟨by simp,by simp⟩,F' (by omega) ya⟩⟩;unfold kQ;rw[aU (show ¬((3:Int)=1) by decide),aU (show ¬((3:Int)=2) by decide),bm rfl];simp[bc,an]
 ·have rT:∀j,j<lp.aj.length->cP kV (T.v j):=λj aH=>sV (bK.1.F8 h (by omega)) (by decide);have aC:nv lp T=(List.range lp.aj.length).map λj=>dB (T.v j):=rfl;have uJ:∀i,i<lp.rows.length->cP kV (lu lp.aX T (red lp.aX lp.cs T) (lp.aj.length+i)):=λi _=>aao bK.1.inv.bj Ko (λk ag=>sV (bK.1.azM h ag) (by decide)) _;have aB:Q7 lp T=(List.range lp.rows.length).map λi=>dB (lu lp.aX T (red lp.aX lp.cs T) (lp.aj.length+i)):=bXc λi _=>aag bK.1.inv.bj _ i;have bc:lg lp (nv lp T)=true:=by
   unfold lg;rw[aC,CY hm rT,Bool.true_and];exact(QX hm).2 ((uE.fits hm bK.1.inv bK.2).congr λj aH=>Aj aH (rT j aH))
  have aw:kN lp (nv lp T)=some (lp.nh T.v):=by
   unfold kN;rw[aC,bm (CY hm rT),aak λj aH=>Aj aH (rT j aH)]
  have ai:gR lp (Q7 lp T) true=some (lp.nh T.v):=by
   unfold gR;rw[aB,bm (CY hm uJ)];exact(QY hm).2 (azR hm bK.1.inv bK.2 he λi ad=>Aj ad (uJ i ad))
  refine⟨?_,⟨aC▸F' (by omega) rT,aB▸F' (by omega) uJ,⟨by simp,by simp⟩⟩⟩;unfold kQ;rw[bm rfl];simp[bc,aw,ai,Gb,jj]
end
section
variable{lp:bD}
theorem az6{q:Rat}{k:Nat}(h:sz q k)(ag:1<=k):(dB q).length<=20*k+2:=by
 have ck:=Gc h.1 ag;have cJ:=Gc h.2 ag;unfold dB;simp only[tr];split<;>split<;>simp<;>omega
theorem az7(h:iA lp)(i j:Nat):sz (lp.aX.A i j) 30:=by
 rcases QK (l:=(lp.row i).cM) (f:=λ_=>0) j with e | ⟨c,af,e⟩
 ·show sz (nu _ j) _;rw[nu,e];exact uh (by decide)
 ·show sz (nu _ j) _;rw[nu,e];exact jf ((F3 h i).2 c af) (by decide)
theorem Pz(h:iA lp)(hm:lp.dP=true){wc:Bool}{dz:List (List UInt8)}(bu:∀i,sz (e1 dz i) 400):(jj (gR lp dz wc)).length<1000000:=by
 have aF:=h.n;have Ga:=h.m
 cases e:gR lp dz wc with
 | none=>simp[jj]
 | some b=>
   have ai:=(Q2 hm e).ls.sum;have U:sz (bs (λi=>e1 dz i*rd (lp.row i).rhs) lp.rows.length) 2600:=by
    refine ff (Ch (t:=400+30) λi _=>la (bu i) (jf (F3 h i).1 (by decide))) ?_;exact bH (bYM (ie Ga (bR (400+30+1)))) (by decide)
   have aa:∀j,sz (gD lp wc (e1 dz) j) 2640:=λj=>by
    have aG:sz (bs (λi=>e1 dz i*lp.aX.A i j) lp.rows.length) 2600:=by
     refine ff (Ch (t:=400+30) λi _=>la (bu i) (az7 h i j)) ?_;exact bH (bYM (ie Ga (bR (400+30+1)))) (by decide)
    have aD:sz (d0 lp wc j) 30:=by
     unfold d0;split
     ·exact jf (yn h j).2.2 (by decide)
     ·exact uh (by decide)
    exact ff (Yv aD aG) (by omega)
   have aq:sz (bs (λj=>gD lp wc (e1 dz) j*rd (if gD lp wc (e1 dz) j<0 then(lp.col j).up else(lp.col j).low)) lp.aj.length) 16100:=by
    refine ff (Ch (t:=2640+30) λj _=>la (aa j) ?_) ?_
    ·split
     ·exact jf (yn h j).2.1 (by decide)
     ·exact jf (yn h j).1 (by decide)
    ·exact bH (bYM (ie aF (bR (2640+30+1)))) (by decide)
   have a8:sz b 20000:=by rw[ai];exact ff (zz U aq) (by omega)
   have:=az6 a8 (by decide);show(dB b).length<_;omega
theorem bUW(c a b:Nat)(af:1<c)(h:a<b):c^a<c^b:=Nat.pow_lt_pow_right af h
theorem az8{q:Rat}(h:cP (bZg 1446) q):sz q 400:=by
 have dC:bZg 1446<4294967296^400:=by
  have:bZg 1446<=bZg 9^161:=by rw[bUU];exact bYU (by decide)
  have aa:bZg 9^161<=4294967296^161:=bXG (by rw[bZp];decide) _;exact eD (bH this aa) (bUW 4294967296 161 400 (by decide) (by decide))
 exact⟨eD h.1 dC,eD h.2 dC⟩
theorem ayo(h:iA lp)(hm:lp.dP=true){c:iz}(aG:CZ lp (wC lp.aX (hE lp)) (uG lp.aX (hE lp)) c)(aa:c.st=2):(jj (gR lp c.d false)).length<1000000:=by
 rcases aG with⟨T,a,bK,hw,c9⟩ | ⟨T,col,bK,he,iE⟩ | ⟨T,bK,he⟩
 ·obtain⟨aN,au,_⟩:=n2 hw;have au:off lp.aX T.v (T.rows a)≠0:=by simpa using au
  have az:(List.range lp.aX.m).map (qQ lp.aX T a)=(List.range lp.rows.length).map λi=>dB (jJ lp.aX T a (lp.aj.length+i)):=bXc λi ad=>aah bK.1.inv.bj aN au i;have dC:1<=bZg 1446:=bVt 1446;have uJ:∀i,cP (bZg 1446) (jJ lp.aX T a (lp.aj.length+i)):=λi=>aap (B:=bZg 1446) bK.1.inv.bj dC aN au (λk ag=>bK.1.Kg h aN ag) _;refine Pz h hm λi=>?_;show sz (e1 ((List.range lp.aX.m).map (qQ lp.aX T a)) i) 400;rw[az];by_cases ad:i<lp.rows.length
  ·rw[Aj ad (sV (uJ i) (by decide))];exact az8 (uJ i)
  ·unfold e1;rw[ob,jq (by simp;omega)];exact jf (by simp) (by decide)
 ·cases aa
 ·cases aa
end
end Go.Dam.C
namespace Go.Dam.C
open Go Go.Dam
def Fu(_:Perm)(args:List Value)(H:ah):Option (Value×ah):=match args with
 | []=>bif qI H then some (.bool true,H) else none
 | _=>none
structure bYF(X:aY):Prop extends hj X where
 begun:X.ov F.O9=some Fu
 ll:Has X F.ll C.ll
 wk:Has X F.wk C.wk
variable{X:aY}{pm:Perm}{H H' cL H0:ah}{n:Nat}
theorem ax2(al:bYF X)(aS:Tab H):Call X pm F.O9 [] H λr H'=>H'=H/\r=.bool true:=by
 refine Call.over al.begun (v:=.bool true) (H':=H) ?_ ⟨rfl,rfl⟩;simp only[Fu,rE aS];rfl
theorem zK(al:bYF X){l:List UInt8}{n:Nat}(_bQA:n<=1000):Call X pm F.ll [aW l,.int .i64 (n:Int)] H λr H'=>H'=H/\r=aW (l.take n):=by
 refine Call.has al.ll rfl ?_;by_cases h:n<l.length
 ·simp[h,show n<=l.length by omega,]
 ·simp[h,];rw[tp (by omega)]
end Go.Dam.C
namespace Go.Dam.C
open Go Go.Dam
variable{X:aY}{pm:Perm}{H H' cL H0:ah}{n:Nat}
def np(bQN:Nat):Value->Prop
 | .slice (some a) n _=>bQN<=a.block/\0<n
 | _=>True
theorem hi.put{v:Value}{m w bQN b:Nat}{P sA:Nat->List Value->Prop}(h:hi H v m w P)(bc:np bQN v)(ai:b<bQN)(x:cj)(aC:∀i cs,i<m->P i cs->sA i cs):hi (H.put b x) v m w sA:=by
 obtain⟨base,cap,rfl,eU⟩:=h.ex;refine⟨base,cap,rfl,λi ad=>?_⟩;obtain⟨c,off,y,row,cs,rfl,e2,bd,b1,cK⟩:=eU i ad;have bc:bQN<=c:=bc.1;exact⟨c,off,y,row,cs,rfl,by rw[cq (by omega)];exact e2,bd,b1,aC i cs ad cK⟩
def uv(H:ah)(bQN:Nat)(v:Value)(l:List di):Prop:=hi H v l.length 5 λi cs=>∃r vc,l[i]? = some r/\cs=r.cells vc/\nX H vc r.cM/\np bQN vc
theorem uv.rows{bQN:Nat}{v:Value}{l:List di}(h:uv H bQN v l):nY H v l:=hi.imp h (λ_ _ e=>e) λ_ _ _ ⟨r,vc,ao,e2,bd,_⟩=>⟨r,vc,ao,e2,bd⟩
theorem uv.ext{bQN:Nat}{v:Value}{l:List di}(h:uv H bQN v l)(e:Ext H H'):uv H' bQN v l:=hi.imp h e λ_ _ _ ⟨r,vc,ao,e2,bd,b1⟩=>⟨r,vc,ao,e2,bd.ext e,b1⟩
theorem uv.put{bQN b:Nat}{v:Value}{l:List di}(h:uv H bQN v l)(bc:np bQN v)(ai:b<bQN)(x:cj):uv (H.put b x) bQN v l:=
 hi.put h bc ai x λ_ _ _ ⟨r,vc,ao,e2,bd,b1⟩=>⟨r,vc,ao,e2,hi.put bd b1 ai x λ_ _ _ h=>h,b1⟩
def sL(H:ah)(bQN:Nat)(r:Value)(lp:bD):Prop:=∃v1 v2,r=.agg #[v1,v2]/\kI H v1 lp.aj/\uv H bQN v2 lp.rows/\np bQN v1/\np bQN v2
theorem sL.lp{bQN:Nat}{r:Value}{lp:bD}(h:sL H bQN r lp):ps H r lp:=by
 obtain⟨v1,v2,rfl,U,aa,_⟩:=h;exact⟨v1,v2,rfl,U,aa.rows⟩
theorem sL.ext{bQN:Nat}{r:Value}{lp:bD}(h:sL H bQN r lp)(e:Ext H H'):sL H' bQN r lp:=by
 obtain⟨v1,v2,rfl,U,aa,aq⟩:=h;exact⟨v1,v2,rfl,U.ext e,aa.ext e,aq⟩
theorem sL.put{bQN b:Nat}{r:Value}{lp:bD}(h:sL H bQN r lp)(ai:b<bQN)(x:cj):sL (H.put b x) bQN r lp:=by
 obtain⟨v1,v2,rfl,U,aa,aq,a8⟩:=h;exact⟨v1,v2,rfl,hi.put U aq ai x λ_ _ _ h=>h,aa.put a8 ai x,aq,a8⟩
def eu.cut(c:eu):eu:={c with low:=c.low.take 20,up:=c.up.take 20,cost:=c.cost.take 20}
def di.cut(r:di):di:={r with cM:=(r.cM.take 8).map λc=>{c with v:=c.v.take 20},rhs:=r.rhs.take 30}
def bD.cut(lp:bD):bD:=⟨(lp.aj.take 6).map eu.cut,(lp.rows.take 6).map di.cut⟩
theorem bD.ax8(lp:bD):iA lp.cut:=by
 refine⟨by simp[bD.cut];omega,by simp[bD.cut];omega,λc af=>?_,λr an=>?_⟩
 ·obtain⟨c,_,rfl⟩:=bZx.1 af;simp only[eu.cut,bYe];omega
 ·obtain⟨r,_,rfl⟩:=bZx.1 an;simp only[di.cut,bYe,bYm];refine⟨by omega,by omega,λc af=>?_⟩;obtain⟨c,_,rfl⟩:=bZx.1 af;simp only[bYe];omega
def hO(H:ah)(v:Value)(m w:Nat)(P:Nat->List Value->Prop):Prop:=∃base cap,v=.slice base m cap/\m<=cap/\(base=none->m=0)/\∀a,base=some a->∃b off row,a=⟨b,off,none⟩/\H.get b=some (.ro row)/\off+m*w<=row.length/\∀i,i<m->∃cs,cX row (off+i*w) w=some cs/\P i cs
theorem hO.sl{v:Value}{m w:Nat}{P:Nat->List Value->Prop}(h:hO H v m w P):hi H v m w P:=by
 obtain⟨base,cap,rfl,_,aD,U⟩:=h;refine⟨base,cap,rfl,λi ad=>?_⟩
 cases base with
 | none=>have:=aD rfl;omega
 | some a=>
   obtain⟨b,off,row,rfl,aa,_,aq⟩:=U _ rfl;obtain⟨cs,a8,cg⟩:=aq i ad;exact⟨b,off,_,row,cs,rfl,aa,rfl,a8,cg⟩
theorem hO.imp{v:Value}{m w:Nat}{P sA:Nat->List Value->Prop}(h:hO H v m w P)(e:Ext H H')(aC:∀i cs,i<m->P i cs->sA i cs):hO H' v m w sA:=by
 obtain⟨base,cap,rfl,hm,aD,U⟩:=h;refine⟨base,cap,rfl,hm,aD,λa aN=>?_⟩;obtain⟨b,off,row,rfl,aa,ai,aq⟩:=U a aN;exact⟨b,off,row,rfl,e _ _ aa,ai,λi ad=>(aq i ad).imp λcs h=>⟨h.1,aC i cs ad h.2⟩⟩
def CF(H:ah)(v:Value)(l:List di):Prop:=hO H v l.length 5 λi cs=>∃r vc,l[i]? = some r/\cs=r.cells vc/\hO H vc r.cM.length 2 λi cs=>∃c,r.cM[i]? = some c/\cs=c.cells
def x'(H:ah)(v:Value)(lp:bD):Prop:=∃v1 v2,v=.agg #[v1,v2]/\(hO H v1 lp.aj.length 5 λi cs=>∃c,lp.aj[i]? = some c/\cs=c.cells)/\CF H v2 lp.rows
theorem CF.ext{v:Value}{l:List di}(h:CF H v l)(e:Ext H H'):CF H' v l:=hO.imp h e λ_ _ _ ⟨r,vc,ao,e2,bd⟩=>⟨r,vc,ao,e2,bd.imp e λ_ _ _ h=>h⟩
theorem x'.ext{v:Value}{lp:bD}(h:x' H v lp)(e:Ext H H'):x' H' v lp:=by
 obtain⟨v1,v2,rfl,U,aa⟩:=h;exact⟨v1,v2,rfl,U.imp e λ_ _ _ h=>h,aa.ext e⟩
theorem x'.lp{v:Value}{lp:bD}(h:x' H v lp):ps H v lp:=by
 obtain⟨v1,v2,rfl,U,aa⟩:=h;exact⟨v1,v2,rfl,U.sl,hi.imp aa.sl (λ_ _ e=>e) λ_ _ _ ⟨r,vc,ao,e2,bd⟩=>⟨r,vc,ao,e2,bd.sl⟩⟩
def YJ(X:aY):Prop:=∀(pm:Perm) (H:ah),cl pm H->∀(v:Value) (lp:bD),x' H v lp->Call X pm F.wk [v] H λr H'=>K pm H H'/\sL H' H.next r lp.cut
theorem Fy{row cs:List Value}{o w:Nat}(h:cX row o w=some cs):o+w<=row.length/\cs=(row.drop o).take w:=by
 unfold cX at h;by_cases ai:o+w<=row.length
 ·rw[dA,bZw ai,cond_true]at h;exact⟨ai,(bZA h).symm⟩
 ·rw[dA,bZP ai,cond_false]at h;cases h
theorem CG{row:List Value}{o w:Nat}(h:o+w<=row.length):cX row o w=some ((row.drop o).take w):=by
 unfold cX;rw[dA,bZw h,cond_true]
theorem ayx{row:List Value}{off w n:Nat}(aF:0<n)(h:∀i,i<n->∃cs,cX row (off+i*w) w=some cs):∃l,cX row off (n*w)=some l/\l.length=n*w/\∀i,i<n->cX l (i*w) w=cX row (off+i*w) w:=by
 obtain⟨cs,af⟩:=h (n-1) (by omega);have ai:=(Fy af).1;have e:(n-1)*w+w=n*w:=by
  rw[<-bZs];congr 1;omega
 have hlen:off+n*w<=row.length:=by omega
 refine⟨_,CG hlen,by simp;omega,λi ad=>?_⟩;have hi':i*w+w<=n*w:=by
  rw[<-bZs];exact hQ _ ad
 rw[CG (show off+i*w+w<=row.length by omega),CG (by simp;omega)];congr 1;rw[List.drop_take,List.take_take,List.drop_drop];congr 1;omega
theorem ayy{w by' n lo b:Nat}{okl:List Nat}{l:List Value}(aF:0<n)(aO:l.all fG=true)(hw:1<=w)(Fz:n<=1000)(hK:by'<=200):
 (iV w by' (.slice none 0 0) l n).runT ⟨lo,okl,some b⟩ H=some (.slice (some ⟨b,0,none⟩) n n,H.put b (.cells l (.n w)),[],[b]):=by
 have ai:n*by'<=17179869184:=bH (ie Fz hK) (by decide);unfold iV;simp only[aO];simp[Perm.make,Perm.pick,ai,hw,show ¬n=0 by omega,show n<=17179869184 by omega]
theorem YU{w by' lo b:Nat}{okl:List Nat}{l:List Value}:(iV w by' (.slice none 0 0) l 0).runT ⟨lo,okl,some b⟩ H=some (.slice none 0 0,H,[],[]):=by
 unfold iV;simp
def mD(H:ah)(b n w:Nat)(l:List Value):ah:=if n=0 then H else H.put b (.cells l (.n w))
def rI(b n:Nat):List Nat:=if n=0 then[] else[b]
theorem copyV{w by' n lo b:Nat}{okl:List Nat}{l:List Value}(aO:l.all fG=true)(hw:1<=w)(Fz:n<=1000)(hK:by'<=200):
 (iV w by' (.slice none 0 0) l n).runT ⟨lo,okl,some b⟩ H=some (sl b n,mD H b n w l,[],rI b n):=by
 by_cases h:n=0
 ·subst h;exact YU
 ·rw[ayy (by omega) aO hw Fz hK,eQ (by omega),mD,aU h,rI,aU h]
theorem JD{b n w c:Nat}{l:List Value}(h:c≠b):(mD H b n w l).get c=H.get c:=by
 unfold mD;split
 ·rfl
 ·rw[cq h]
@[simp] theorem PV{b n w:Nat}{l:List Value}:(mD H b n w l).next=H.next:=by unfold mD;split<;>rfl
theorem PW{b n w:Nat}{l:List Value}(h:0<n):(mD H b n w l).get b=some (.cells l (.n w)):=by
 unfold mD;rw[aU (by omega),dX]
theorem YV{b n x:Nat}(h:b≠x):gp (rI b n) [x]=true/\gp [x] (rI b n)=true:=by
 unfold rI;split
 ·exact⟨rfl,rfl⟩
 ·exact⟨kS h,kS (Ne.symm h)⟩
abbrev tyU0:Nat:=T.ayz
abbrev tyU1:Nat:=T.ayA
abbrev tyU2:Nat:=T.ayB
theorem YW(m:Nat):et (some (Value.int .i64 (if 6<m then 6 else(m:Int))))=some (min m 6):=by
 by_cases h:6<m
 ·rw[bm h,Nat.min_eq_right (by omega)];rfl
 ·rw[aU h,bYp (by omega)];simp[et]
theorem ayC(m:Nat):et (some (Value.int .i64 (if 8<m then 8 else(m:Int))))=some (min m 8):=by
 by_cases h:8<m
 ·rw[bm h,Nat.min_eq_right (by omega)];rfl
 ·rw[aU h,bYp (by omega)];simp[et]
theorem PX{m w cap by' k:Nat}{base:Option Addr}{P:Nat->List Value->Prop}(h:hO H (.slice base m cap) m w P)(ag:k<=m)(hw:1<=w)(ayD:k<=1000)(hK:by'<=200)(zt:∀i cs,P i cs->cs.all fG=true):
 ∃f l,(∀x∈f,∃y,H.get x=some (.ro y))/\(0<k->l.length=k*w/\∀i,i<k->∃cs,cX l (i*w) w=some cs/\P i cs)/\
  ∀H',Ext H H'->∀lo b okl,(nK w base 0 k cap cap).runT ⟨lo,okl,some b⟩ H'=some (.slice base k cap,H',f,[])/\
   (hV w (.slice base k cap) λnew n=>iV w by' (.slice none 0 0) new n).runT ⟨lo,okl,some b⟩ H'=some (sl b k,mD H' b k w l,f,rI b k):=by
 obtain⟨_,_,e,hm,aD,U⟩:=h;cases e
 cases base with
 | none=>
   obtain rfl:m=0:=aD rfl;obtain rfl:k=0:=by omega
   refine⟨[],[],(by simp),λh=>absurd h (Nat.lt_irrefl 0),λH' _ lo b okl=>⟨by unfold nK;simp,?_⟩⟩;unfold hV;exact YU
 | some a=>
   obtain⟨c,off,row,rfl,aa,aq,a8⟩:=U _ rfl;have ai:k*w<=m*w:=hQ _ ag;have aO:∀i,i<k->∃cs,cX ((row.drop off).take (k*w)) (i*w) w=some cs/\P i cs:=λi ad=>by
    obtain⟨cs,cg,dj⟩:=a8 i (by omega);obtain⟨l,ao,e2,bd⟩:=ayx (n:=k) (row:=row) (off:=off) (w:=w) (by omega) (λi ad=>(a8 i (by omega)).imp λ_ h=>h.1);have:=(Fy ao).2;exact⟨cs,by rw[<-this,bd i ad,cg],dj⟩
   refine⟨[c],(row.drop off).take (k*w),λx az=>⟨row,by rw[DZ.1 az];exact aa⟩,λCH=>⟨by simp;omega,aO⟩,λH' az lo b okl=>⟨?_,?_⟩⟩
   ·unfold nK;simp[show k<=cap by omega,az _ _ aa]
   ·have mc:((row.drop off).take (k*w)).all fG=true:=by
     rw[hz];intro v aw;obtain⟨p,aC,rfl⟩:=bXH aw;have ri:p<k*w:=by
      have:=aC;simp at this;omega
     have aV:p/w<k:=bYj (by rw[gw];exact ri);obtain⟨cs,cg,dj⟩:=aO (p/w) aV;have j4:=(Fy cg).2;have Ei:=hz.1 (zt _ _ dj);have ayE:p%w<w:=bZU _ (by omega);have e:p/w*w+p%w=p:=by rw[gw];exact bYO p w
     refine Ei _ ?_;rw[j4];refine List.mem_iff_getElem?.2 ⟨p%w,?_⟩;rw[pT ayE,o',e];exact hG aC
    unfold hV;simp only[bF.runT,az _ _ aa,rowOf];rw[CG (by show off+k*w<=row.length;omega)];simp only;rw[copyV mc hw ayD hK]
def jk(L:List Value)(w n:Nat)(f:Nat->List Value):Prop:=L.length=n*w/\∀j,j<n->(f j).length=w/\∀k,k<w->L[j*w+k]? = (f j)[k]?
theorem jk.of{L:List Value}{w n:Nat}{f:Nat->List Value}(aO:L.length=n*w)(h:∀j,j<n->cX L (j*w) w=some (f j)):jk L w n f:=by
 refine⟨aO,λj aH=>?_⟩;obtain⟨U,aa⟩:=Fy (h j aH);refine⟨by rw[aa];simp;omega,λk ag=>?_⟩;rw[aa,pT ag,o']
theorem jk.lt{L:List Value}{w n j k:Nat}{f:Nat->List Value}(h:jk L w n f)(aH:j<n)(ag:k<w):j*w+k<L.length:=by
 have ai:j*w+w<=n*w:=by rw[<-bZs];exact hQ _ aH
 rw[h.1];omega
theorem jk.row{L:List Value}{w n j:Nat}{f:Nat->List Value}(h:jk L w n f)(aH:j<n):cX L (j*w) w=some (f j):=by
 have ai:j*w+w<=n*w:=by rw[<-bZs];exact hQ _ aH
 rw[CG (by rw[h.1];exact ai)];congr 1;apply bZW;intro k;by_cases ag:k<w
 ·rw[pT ag,o'];exact(h.2 j aH).2 k ag
 ·rw[jq (by simp;omega),jq (by rw[(h.2 j aH).1];omega)]
theorem jk.set{L:List Value}{w n j k:Nat}{f f':Nat->List Value}(h:jk L w n f)(aH:j<n)(ag:k<w)(v:Value)(he:f' j=(f j).set k v)(aF:∀i,i<n->i≠j->f' i=f i):jk (L.set (j*w+k) v) w n f':=by
 refine⟨by simp[h.1],λi ad=>⟨?_,λp aC=>?_⟩⟩
 ·by_cases e:i=j
  ·subst e;rw[he];simp;exact(h.2 i ad).1
  ·rw[aF i ad e];exact(h.2 i ad).1
 ·by_cases e:i=j
  ·subst e;rw[he];by_cases e2:p=k
   ·subst e2;rw[bYZ (h.lt aH ag),bYZ (by rw[(h.2 i ad).1];exact ag)]
   ·rw[bXb (by omega),bXb (Ne.symm e2)];exact(h.2 i ad).2 p aC
  ·rw[aF i ad e,bXb]
   ·exact(h.2 i ad).2 p aC
   ·rcases Nat.lt_or_gt_of_ne e with e | e
    ·have:i*w+w<=j*w:=by rw[<-bZs];exact hQ _ e
     omega
    ·have:j*w+w<=i*w:=by rw[<-bZs];exact hQ _ e
     omega
theorem jk.ex{l:List Value}{w n:Nat}{P:Nat->List Value->Prop}(aO:l.length=n*w)(h:∀i,i<n->∃cs,cX l (i*w) w=some cs/\P i cs):∃f,jk l w n f/\∀i,i<n->P i (f i):=by
 refine⟨λi=>(cX l (i*w) w).getD [],jk.of aO λj aH=>?_,λj aH=>?_⟩
 ·obtain⟨cs,e,_⟩:=h j aH;rw[e];rfl
 ·obtain⟨cs,e,p⟩:=h j aH;show P j ((cX l (j*w) w).getD []);rw[e];exact p
end Go.Dam.C
namespace Go.Dam.C
open Go Go.Dam
variable{X:aY}{pm:Perm}{H H' cL H0:ah}{n:Nat}
theorem bp.mD(u:bp pm n H H'){b k w:Nat}{l:List Value}(h:n<=b)(aK:H'.get b=none)(ai:b<H'.next):bp pm n H (C.mD H' b k w l):=by
 unfold C.mD;split
 ·exact u
 ·exact bp.fill u h aK ai _
theorem zX{a b:List Nat}{n:Nat}(h:∀x∈a,x<n)(gJ:∀x∈b,n<=x):gp a b=true/\gp b a=true:=by
 unfold gp;simp only[hz,mN,List.contains_eq_mem,decide_eq_false_iff_not];exact⟨λx az ai=>by have:=h x az;have:=gJ x ai;omega,λx az ai=>by have:=h x ai;have:=gJ x az;omega⟩
theorem JE{b n x:Nat}(h:x∈rI b n):x=b:=by
 unfold rI at h;split at h
 ·cases h
 ·simpa using h
structure iR(pm:Perm)(H0 H:ah)(bJ cO dZ ev dn dc:Nat)(gM eW:Nat->List Value):Prop where
 k:K pm H0 H
 r:H.get bJ=some (.cells [.slice none 0 0,.slice none 0 0] (.t tyU1))
 x:H.get cO=some (.cells [sl dZ dn,sl ev dc] (.t tyU2))
 c:0<dn->∃L,H.get dZ=some (.cells L (.n 5))/\jk L 5 dn gM
 w:0<dc->∃L,H.get ev=some (.cells L (.n 5))/\jk L 5 dc eW
structure CI(H0:ah)(bJ cO dZ ev:Nat):Prop where
 U:H0.next<=bJ
 aa:bJ<dZ
 aq:dZ<ev
 a8:ev<cO
variable{bJ cO dZ ev dn dc:Nat}{gM eW:Nat->List Value}
theorem iR.up(s:iR pm H0 H bJ cO dZ ev dn dc gM eW)(u:K pm H H'):iR pm H0 H' bJ cO dZ ev dn dc gM eW where
 k:=K.trans s.k u
 r:=u.some s.k.aL s.r
 x:=u.some s.k.aL s.x
 c:=λh=>(s.c h).imp λ_ h=>⟨u.some s.k.aL h.1,h.2⟩
 w:=λh=>(s.w h).imp λ_ h=>⟨u.some s.k.aL h.1,h.2⟩
theorem iR.put(s:iR pm H0 H bJ cO dZ ev dn dc gM eW)(q:CI H0 bJ cO dZ ev){b:Nat}{y x:cj}(ai:cO<b)(aK:H.get b=some y)(bu:∀o,y≠.eE o):iR pm H0 (H.put b x) bJ cO dZ ev dn dc gM eW where
 k:=bp.put s.k (by have:=q.U;have:=q.aa;have:=q.aq;have:=q.a8;omega) aK bu _
 r:=by rw[cq (by have:=q.U;have:=q.aa;have:=q.aq;have:=q.a8;omega)];exact s.r
 x:=by rw[cq (by omega)];exact s.x
 c:=λh=>(s.c h).imp λ_ h=>⟨by rw[cq (by have:=q.aq;have:=q.a8;omega)];exact h.1,h.2⟩
 w:=λh=>(s.w h).imp λ_ h=>⟨by rw[cq (by have:=q.a8;omega)];exact h.1,h.2⟩
theorem iR.row(s:iR pm H0 H bJ cO dZ ev dn dc gM eW)(q:CI H0 bJ cO dZ ev){PY:Nat->List Value}{i k:Nat}{v:Value}(ad:i<dc)(ag:k<5)(bc:PY i=(eW i).set k v)(aF:∀j,j<dc->j≠i->PY j=eW j){L:List Value}(bC:H.get ev=some (.cells L (.n 5))):
 iR pm H0 (H.put ev (.cells (L.set (i*5+k) v) (.n 5))) bJ cO dZ ev dn dc gM PY where
 k:=bp.put s.k (by have:=q.U;have:=q.aa;have:=q.aq;have:=q.a8;omega) bC (by simp) _
 r:=by rw[cq (by have:=q.U;have:=q.aa;have:=q.aq;have:=q.a8;omega)];exact s.r
 x:=by rw[cq (by have:=q.a8;omega)];exact s.x
 c:=λh=>(s.c h).imp λ_ h=>⟨by rw[cq (by have:=q.aq;have:=q.a8;omega)];exact h.1,h.2⟩
 w:=λh=>by
  obtain⟨L',U,aa⟩:=s.w h;rw[bC]at U;cases U;exact⟨_,dX,aa.set ad ag v bc aF⟩
theorem iR.col(s:iR pm H0 H bJ cO dZ ev dn dc gM eW)(q:CI H0 bJ cO dZ ev){PZ:Nat->List Value}{i k:Nat}{v:Value}(ad:i<dn)(ag:k<5)(bc:PZ i=(gM i).set k v)(aF:∀j,j<dn->j≠i->PZ j=gM j){L:List Value}(bC:H.get dZ=some (.cells L (.n 5))):
 iR pm H0 (H.put dZ (.cells (L.set (i*5+k) v) (.n 5))) bJ cO dZ ev dn dc PZ eW where
 k:=bp.put s.k (by have:=q.U;have:=q.aa;have:=q.aq;have:=q.a8;omega) bC (by simp) _
 r:=by rw[cq (by have:=q.U;have:=q.aa;have:=q.aq;have:=q.a8;omega)];exact s.r
 x:=by rw[cq (by have:=q.aq;have:=q.a8;omega)];exact s.x
 c:=λh=>by
  obtain⟨L',U,aa⟩:=s.c h;rw[bC]at U;cases U;exact⟨_,dX,aa.set ad ag v bc aF⟩
 w:=λh=>(s.w h).imp λ_ h=>⟨by rw[cq (by have:=q.aq;have:=q.a8;omega)];exact h.1,h.2⟩
def JF(c:fb):fb:={c with v:=c.v.take 20}
def ayF:fb:=⟨0,[]⟩
theorem ayG(al:bYF X)(g0:cl pm H0)(q:CI H0 bJ cO dZ ev)(s:iR pm H0 H bJ cO dZ ev dn dc gM eW)(oB:dc<=6){i:Nat}(ad:i<dc){r:di}{vc:Value}(an:eW i=r.cells vc)
 (nd:hO H0 vc r.cM.length 2 λi cs=>∃c,r.cM[i]? = some c/\cs=c.cells) {R:c'}
 (dD:∀l' H' rJ,Sub [(27,.int .i64 (i:Int)),(26,.int .i64 (dc:Int)),(2,.pointer (some ⟨bJ,0,none⟩)),(3,.pointer (some ⟨cO,0,none⟩))] l'->iR pm H0 H' bJ cO dZ ev dn dc gM (λj=>if j=i then r.cut.cells rJ else eW j)->nX H' rJ r.cut.cM->np H.next rJ->(∀b y,b≠ev->H.get b=some y->H'.get b=some y)->R .normal l' H'):
 wp X pm (.code (.seq (.aT [m 29 27,m 4 29]) C.P0)) [(28,.bool true),(27,.int .i64 (i:Int)),(26,.int .i64 (dc:Int)),(2,.pointer (some ⟨bJ,0,none⟩)),(3,.pointer (some ⟨cO,0,none⟩))] H [] R:=by
 have g:=s.k.aL;have bn:=q.U;have bh:=q.aa;have cu:=q.aq;have e9:=q.a8;have eT:=g.lt s.x;obtain⟨L,bC,mV⟩:=s.w (by omega);have CJ:=s.x;rw[eQ (show 0<dc by omega)]at CJ;have e2:L[i*5+2]? = some vc:=by rw[(mV.2 i ad).2 2 (by decide),an];rfl
 obtain⟨base,cap,rfl,_⟩:=id nd;obtain⟨f,ak,bc,Ek,gy⟩:=PX (by':=24) (k:=min r.cM.length 8) (nd.imp (s.k.ext g0) λ_ _ _ h=>h) (Nat.min_le_left _ _) (by decide) (by omega) (by decide) (λi cs ⟨c,_,e⟩=>by rw[e];rfl);have CK:∀x∈f,x<H.next:=λx az=>by obtain⟨y,bu⟩:=bc x az;exact g.lt bu
 obtain⟨eG,pZ⟩:∃k,k=min r.cM.length 8:=⟨_,rfl⟩;have m8:=ayC r.cM.length;rw[<-pZ]at gy Ek m8;obtain⟨z,bl⟩:∃z,z=H.next:=⟨_,rfl⟩;have bE:K pm H (H.up 22):=(K.refl g).up 22;have cy:=(gy _ (bE.ext g) pm.lo (z+17) pm.ok).1;have dd:=(gy _ (bE.ext g) pm.lo (z+18) pm.ok).2;obtain⟨fL,fc⟩:∃A,A=mD (H.up 22) (z+18) eG 2 ak:=⟨_,rfl⟩;have hD:K pm H fL:=by rw[fc];exact bp.mD bE (by omega) (by rw[bl];exact g.none 18) (by show z+18<H.next+22;omega)
 rw[<-fc]at dd;have oP:∀j,j≠18->fL.get (z+j)=none:=λj aH=>by rw[fc,JD (by omega),bl];exact g.none j
 have P1:fL.next=z+22:=by rw[fc,PV,bl];rfl
 have YX:=hD.some g bC;have YY:=hD.some g CJ;obtain⟨fV,fg⟩:∃A,A=fL.put ev (.cells (L.set (i*5+2) (sl (z+18) eG)) (.n 5)):=⟨_,rfl⟩;have s2:iR pm H0 fV bJ cO dZ ev dn dc gM (λj=>if j=i then r.cells (sl (z+18) eG) else eW j):=by
  rw[fg];exact(s.up hD).row q ad (by decide) (by rw[an];simp[di.cells]) (λj _ h=>by simp[h]) YX
 have oN:∀b i,fG (sl b i)=true:=λb i=>by unfold sl;split<;>rfl
 have oO:∀b i,(sl b i).cells=#[sl b i]:=λb i=>by unfold sl;split<;>rfl
 have hlen:=mV.lt ad (show 2<5 by decide);have JG:setCells L (i*5+2) [sl (z+18) eG]=some (L.set (i*5+2) (sl (z+18) eG)):=setCells_one hlen;have ya:=λo=>jh (lo:=pm.lo) (ok:=pm.ok) (o:=o) (b:=ev) (by have:=g0.lo;omega);have d1:=(zX (a:=[cO]) (b:=rI (z+18) eG) (n:=z) (λx az=>by rw[DZ.1 az];omega) (λx az=>by rw[JE az];omega)).2;have hP:cO<z:=by omega
 have lf:ev<z:=by omega
 have mS:=λj=>(by rw[bl];exact g.none j:(H.up 22).get (z+j)=none);have FA:=(by rw[bl];exact g.fo:(H.up 22).get z=none);simp[-JH];refine eg.of g.lo rfl ?_;rw[<-bl];simp[dt,mS,FA,CJ,bC,ad,e2,m8,cy,dd,oP,YX, oO,oN,JG,ya,<-fg,d1,hP,lf,dx,dm,ez,-hV,-JH];refine⟨⟨λx az=>.inl (.inl (.inl (by have:=CK x az;omega))),λx az=>.inl (.inl (.inl (by have:=CK x az;omega)))⟩,?_⟩;clear m8 cy dd oP YY JG mS FA;have g2:=s2.k.aL;have YZ:=s2.x;rw[eQ (show 0<dc by omega)]at YZ;obtain⟨kz,wy,Y0⟩:=s2.w (by omega);have bQO:fV.next=z+22:=by rw[fg];exact P1
 have bd:kz[i*5+3]? = some (aW r.rhs):=by rw[(Y0.2 i ad).2 3 (by decide)];simp[di.cells]
 obtain⟨fW,fp⟩:∃A,A=(fV.up 13).put ev (.cells (kz.set (i*5+3) (aW (r.rhs.take 30))) (.n 5)):=⟨_,rfl⟩;have pB:K pm fV (fV.up 13):=(K.refl g2).up 13;have de:iR pm H0 fW bJ cO dZ ev dn dc gM (λj=>if j=i then({r with rhs:=r.rhs.take 30}:di).cells (sl (z+18) eG) else eW j):=by
  rw[fp];exact(s2.up pB).row q ad (by decide) (by simp[di.cells]) (λj _ h=>by simp[h]) wy
 have P2:setCells kz (i*5+3) [aW (r.rhs.take 30)]=some (kz.set (i*5+3) (aW (r.rhs.take 30))):=setCells_one (Y0.lt ad (by decide));have h1:cO<fV.next:=by omega
 have dO:ev<fV.next:=by omega
 simp[-FB];refine eg.of g2.lo rfl ?_;simp[dt,g2.none,g2.fo,YZ,wy,ad,bd,-FB];refine GA pB.aL (vs:=[aW r.rhs,.int .i64 30]) (by simp[g2.none]) (by simp) (by simp) rfl (λpm' bS=>kM bS (zK al (n:=30) (by omega))) ?_;rintro _ _-⟨rfl,rfl⟩;simp[g2.none,wy,ad,P2,ya,<-fp,h1,dO,dx,dm,eJ,ez,gI,-FB];have g3:=de.k.aL;have Y1:=de.x;rw[eQ (show 0<dc by omega)]at Y1;obtain⟨JI,JJ,ayH⟩:=de.w (by omega);have b1:JI[i*5+2]? = some (sl (z+18) eG):=by rw[(ayH.2 i ad).2 2 (by decide)];simp[di.cells]
 obtain⟨aGo,jQ⟩:∃a,sl (z+18) eG=.slice a eG eG:=by
  unfold sl;split
  ·rename_i h;exact⟨none,by rw[h]⟩
  ·exact⟨_,rfl⟩
 rw[jQ]at b1;simp[Y1,JJ,ad,b1,-P3];obtain⟨cQ,mY⟩:∃cQ:Nat->fb,∀j,j<r.cM.length->r.cM[j]? = some (cQ j):=⟨λj=>r.cM.getD j ayF,λj aH=>by simp[aH]⟩;have CH:∀b y,b≠ev->H.get b=some y->fW.get b=some y:=λb y ai h=>by
  rw[fp,cq ai,zY,fg,cq ai];exact hD.some g h
 have dp:0<eG->∃M,fW.get (z+18)=some (.cells M (.n 2))/\jk M 2 eG (λj=>if j<0 then(JF (cQ j)).cells else(cQ j).cells):=λh=>by
  obtain⟨U,aa⟩:=Ek h;refine⟨ak,by rw[fp,cq (by omega),zY,fg,cq (by omega),fc];exact PW h,jk.of U λj aH=>?_⟩;obtain⟨cs,ao,c,e2,rfl⟩:=aa j aH;rw[ao];rw[mY j (by omega)]at e2;cases e2;simp
 clear fc fg fp Ek gy
 refine gG (σ:=Unit) eG (λ_ _=>[(27,.int .i64 (i:Int)),(26,.int .i64 (dc:Int)),(2,.pointer (some ⟨bJ,0,none⟩)),(3,.pointer (some ⟨cO,0,none⟩)),(4,.int .i64 (i:Int))])
  (λk _ H'=>iR pm H0 H' bJ cO dZ ev dn dc gM (λj=>if j=i then({r with rhs:=r.rhs.take 30}:di).cells (sl (z+18) eG) else eW j)/\(0<eG->∃M,H'.get (z+18)=some (.cells M (.n 2))/\jk M 2 eG (λj=>if j<k then(JF (cQ j)).cells else(cQ j).cells))/\∀b y,b≠ev->H.get b=some y->H'.get b=some y)
  () (by decide) (by omega) (by simp) ⟨de,dp,CH⟩ (by simp) ?_ ?_
 ·rintro k _ qJ ag ⟨qK,P4,P5⟩;obtain⟨M,CL,FC⟩:=P4 (by omega);have nr:=qK.k.aL;have P6:=qK.x;rw[eQ (show 0<dc by omega)]at P6;obtain⟨ayI,Y2,ayJ⟩:=qK.w (by omega);have cK:ayI[i*5+2]? = some (sl (z+18) eG):=by rw[(ayJ.2 i ad).2 2 (by decide)];simp[di.cells]
  rw[eQ (show 0<eG by omega)]at cK;obtain⟨eH,Y3⟩:∃t,t=(cQ k).v:=⟨_,rfl⟩;have il:M[k*2+1]? = some (aW eH):=by rw[(FC.2 k ag).2 1 (by decide),Y3];simp[fb.cells]
  have Y4:K pm qJ (qJ.up 21):=(K.refl nr).up 21;obtain⟨sM,yg⟩:∃A,A=(qJ.up 21).put (z+18) (.cells (M.set (k*2+1) (aW (eH.take 20))) (.n 2)):=⟨_,rfl⟩;have P7:setCells M (k*2+1) [aW (eH.take 20)]=some (M.set (k*2+1) (aW (eH.take 20))):=setCells_one (FC.lt ag (by decide));have ayK:=λo=>jh (lo:=pm.lo) (ok:=pm.ok) (o:=o) (b:=z+18) (by have:=g0.lo;omega);have rK:iR pm H0 sM bJ cO dZ ev dn dc gM (λj=>if j=i then({r with rhs:=r.rhs.take 30}:di).cells (sl (z+18) eG) else eW j):=by
   rw[yg];exact(qK.up Y4).put q (by omega) CL (by simp)
  have m1:=nr.lt P6;have m2:=nr.lt Y2;have m3:=nr.lt CL;have aGp:z+18≠ev:=by omega
  simp;refine eg.of nr.lo rfl ?_;simp[dt,nr.none,nr.fo,P6,Y2,ad,cK,CL,ag,il];refine GA Y4.aL (vs:=[aW eH,.int .i64 20]) (by simp[nr.none]) (by simp) (by simp) rfl (λpm' bS=>kM bS (zK al (n:=20) (by omega))) ?_;rintro _ _-⟨rfl,rfl⟩;simp[nr.none,CL,ag,P7,ayK,<-yg,m1,m2,m3,dx,dm,eJ,ez,gI];refine⟨rK,λ_=>⟨_,by rw[yg];exact dX,FC.set ag (by decide) _ ?_ λj aH Vh=>?_⟩,λb y ai h=>?_⟩
  ·simp[JF,fb.cells,Y3]
  ·by_cases e:j<k
   ·simp[e,show j<k+1 by omega]
   ·simp[e,show ¬j<k+1 by omega]
  ·have:=g.lt h;rw[yg,cq (by omega),zY];exact P5 b y ai h
 ·rintro _ qJ ⟨qK,P4,P5⟩;simp;have d':r.cut.cM.length=eG:=by simp[di.cut];omega
  refine dD _ _ (sl (z+18) eG) (by simp) ?_ ?_ ?_ P5
  ·have e:(λj=>if j=i then r.cut.cells (sl (z+18) eG) else eW j)=(λj=>if j=i then({r with rhs:=r.rhs.take 30}:di).cells (sl (z+18) eG) else eW j):=by
    funext j;split<;>rfl
   rw[e];exact qK
  ·by_cases aD:eG=0
   ·refine⟨none,0,by rw[d',aD];rfl,λj aH=>by omega⟩
   ·obtain⟨M,CL,FC⟩:=P4 (by omega);refine⟨_,eG,by rw[d',eQ (by omega)],λj aH=>⟨z+18,0,_,M,_,rfl,CL,rfl,by rw[Nat.zero_add];exact FC.row (by omega),JF (cQ j),?_,by simp[show j<eG by omega]⟩⟩;have qG:j<8:=by omega
    simp[di.cut, qG,mY j (by omega)];rfl
  ·unfold sl;split
   ·trivial
   ·rename_i aD;exact⟨by show H.next<=z+18;omega,by omega⟩
end Go.Dam.C
namespace Go.Dam.C
open Go Go.Dam
variable{X:aY}{pm:Perm}{H H' cL H0:ah}{n bJ cO dZ ev dn dc:Nat}{gM eW:Nat->List Value}
theorem ayL(al:bYF X)(g0:cl pm H0)(q:CI H0 bJ cO dZ ev)(s:iR pm H0 H bJ cO dZ ev dn dc gM eW)(sN:dn<=6){i:Nat}(ad:i<dn){c:eu}(af:gM i=c.cells){R:c'}
 (dD:∀l' H',Sub [(98,.int .i64 (i:Int)),(97,.int .i64 (dn:Int)),(2,.pointer (some ⟨bJ,0,none⟩)),(3,.pointer (some ⟨cO,0,none⟩))] l'->iR pm H0 H' bJ cO dZ ev dn dc (λj=>if j=i then c.cut.cells else gM j) eW->(∀b y,b≠dZ->H.get b=some y->H'.get b=some y)->R .normal l' H'):
 wp X pm (.code (.seq (.aT [m 100 98,m 6 100]) C.P8)) [(99,.bool true),(98,.int .i64 (i:Int)),(97,.int .i64 (dn:Int)),(2,.pointer (some ⟨bJ,0,none⟩)),(3,.pointer (some ⟨cO,0,none⟩))] H [] R:=by
 have g:=s.k.aL;have bn:=q.U;have bh:=q.aa;have cu:=q.aq;have e9:=q.a8;have eT:=g.lt s.x;obtain⟨L,bC,mV⟩:=s.c (by omega);have CJ:=s.x;rw[eQ (show 0<dn by omega)]at CJ;have hP:=g.lt bC;have ao:L[i*5+1]? = some (aW c.low):=by rw[(mV.2 i ad).2 1 (by decide),af];rfl
 have e2:L[i*5+2]? = some (aW c.up):=by rw[(mV.2 i ad).2 2 (by decide),af];rfl
 have bd:L[i*5+3]? = some (aW c.cost):=by rw[(mV.2 i ad).2 3 (by decide),af];rfl
 have cR:=mV.lt ad (show 1<5 by decide);have b9:=mV.lt ad (show 2<5 by decide);have fK:=mV.lt ad (show 3<5 by decide);have bE:K pm H (H.up 39):=(K.refl g).up 39;have sg:=λo=>jh (lo:=pm.lo) (ok:=pm.ok) (o:=o) (b:=dZ) (by have:=g0.lo;omega);obtain⟨j9,FD⟩:∃l,l=L.set (i*5+1) (aW (c.low.take 20)):=⟨_,rfl⟩;obtain⟨kz,wy⟩:∃l,l=j9.set (i*5+2) (aW (c.up.take 20)):=⟨_,rfl⟩;obtain⟨JI,JJ⟩:∃l,l=kz.set (i*5+3) (aW (c.cost.take 20)):=⟨_,rfl⟩;obtain⟨fL,fc⟩:∃A,A=(H.up 39).put dZ (.cells j9 (.n 5)):=⟨_,rfl⟩;obtain⟨fV,fg⟩:∃A,A=fL.put dZ (.cells kz (.n 5)):=⟨_,rfl⟩;obtain⟨fW,fp⟩:∃A,A=fV.put dZ (.cells JI (.n 5)):=⟨_,rfl⟩;have cx:fL.get dZ=some (.cells j9 (.n 5)):=by rw[fc];exact dX
 have a2:fV.get dZ=some (.cells kz (.n 5)):=by rw[fg];exact dX
 have JG:setCells L (i*5+1) [aW (c.low.take 20)]=some j9:=by rw[FD];exact setCells_one cR
 have P2:setCells j9 (i*5+2) [aW (c.up.take 20)]=some kz:=by rw[wy];exact setCells_one (by rw[FD];simpa using b9)
 have P7:setCells kz (i*5+3) [aW (c.cost.take 20)]=some JI:=by rw[JJ];exact setCells_one (by rw[wy,FD];simpa using fK)
 have s1:iR pm H0 fL bJ cO dZ ev dn dc (λj=>if j=i then({c with low:=c.low.take 20}:eu).cells else gM j) eW:=by
  rw[fc,FD];exact(s.up bE).col q ad (by decide) (by rw[af];simp[eu.cells]) (λj _ h=>by simp[h]) bC
 have s2:iR pm H0 fV bJ cO dZ ev dn dc (λj=>if j=i then({c with low:=c.low.take 20,up:=c.up.take 20}:eu).cells else gM j) eW:=by
  rw[fg,wy];exact s1.col q ad (by decide) (by simp[eu.cells]) (λj _ h=>by simp[h]) cx
 have de:iR pm H0 fW bJ cO dZ ev dn dc (λj=>if j=i then c.cut.cells else gM j) eW:=by
  rw[fp,JJ];exact s2.col q ad (by decide) (by simp[eu.cells,eu.cut]) (λj _ h=>by simp[h]) a2
 have Y5:∀j,fL.get (H.next+j)=none/\fV.get (H.next+j)=none:=λj=>by
  have U:fL.get (H.next+j)=none:=by rw[fc,cq (by omega)];exact g.none j
  exact⟨U,by rw[fg,cq (by omega)];exact U⟩
 have ayM:gp [dZ] [cO]=true:=kS (by omega);have ayN:=λj=>(Y5 j).1;have ayO:=λj=>(Y5 j).2;simp;refine eg.of g.lo rfl ?_;simp[dt,g.none,g.fo,CJ,bC,ad,ao,e2,bd];refine GA bE.aL (vs:=[aW c.low,.int .i64 20]) (by simp[g.none]) (by simp) (by simp) rfl (λpm' bS=>kM bS (zK al (n:=20) (by omega))) ?_;rintro _ _-⟨rfl,rfl⟩;simp;refine GA bE.aL (vs:=[aW c.up,.int .i64 20]) (by simp[g.none]) (by simp) (by simp) rfl (λpm' bS=>kM bS (zK al (n:=20) (by omega))) ?_;rintro _ _-⟨rfl,rfl⟩;simp;refine GA bE.aL (vs:=[aW c.cost,.int .i64 20]) (by simp[g.none]) (by simp) (by simp) rfl (λpm' bS=>kM bS (zK al (n:=20) (by omega))) ?_;rintro _ _-⟨rfl,rfl⟩;simp[g.none,bC,ad,JG,sg,<-fc,ayN,cx,P2,<-fg,ayO,a2,P7,<-fp,ayM,eT,hP,dx,dm,eJ,ez,gI];refine dD _ _ ?_ de λb y ai h=>?_
 ·simp
 rw[fp,cq ai,fg,cq ai,fc,cq ai,zY];exact h
end Go.Dam.C
namespace Go.Dam.C
open Go Go.Dam
variable{X:aY}{pm:Perm}{H H' cL H0:ah}{n:Nat}
theorem jk.Y6{b k w:Nat}{f:Nat->List Value}{P:Nat->List Value->Prop}(h:0<k->∃L,H.get b=some (.cells L (.n w))/\jk L w k f)(aC:∀i,i<k->P i (f i)):hi H (sl b k) k w P:=by
 by_cases ag:0<k
 ·obtain⟨L,U,aa⟩:=h ag;exact⟨_,k,eQ ag,λi ad=>⟨b,0,_,L,_,rfl,U,rfl,by rw[Nat.zero_add];exact aa.row ad,aC i ad⟩⟩
 ·obtain rfl:k=0:=by omega
  exact⟨none,0,rfl,λi ad=>by omega⟩
theorem np.mono{bQN n1:Nat}{v:Value}(h:np bQN v)(aF:n1<=bQN):np n1 v:=by
 unfold np at*
 split
 ·exact⟨bH aF h.1,h.2⟩
 ·trivial
theorem np.sl{bQN b k:Nat}(h:bQN<=b):np bQN (sl b k):=by
 unfold C.sl;split
 ·trivial
 ·rename_i aD;exact⟨h,by omega⟩
theorem hi.ne{v:Value}{m w bQN b:Nat}{P:Nat->List Value->Prop}(h:hi H v m w P)(bc:np bQN v)(ai:b<bQN)(aK:∀c y,c≠b->H.get c=some y->H'.get c=some y):hi H' v m w P:=by
 obtain⟨base,cap,rfl,eU⟩:=h.ex;refine⟨base,cap,rfl,λi ad=>?_⟩;obtain⟨c,off,y,row,cs,rfl,e2,bd,b1,cK⟩:=eU i ad;have bc:bQN<=c:=bc.1;exact⟨c,off,y,row,cs,rfl,aK _ _ (by omega) e2,bd,b1,cK⟩
theorem ayP(al:bYF X):YJ X:=by
 intro pm H g v lp aw;refine Call.h6 al.wk rfl λQ bU=>?_;obtain⟨v1,v2,rfl,af,an⟩:=aw;obtain⟨base,cap,rfl,kj⟩:=id af;obtain⟨dG,dE,rfl,rr⟩:=id an;obtain⟨jW,jR⟩:∃b,b=H.next:=⟨_,rfl⟩;obtain⟨H1,cw⟩:∃H1,H1=H.new (.cells [.slice base lp.aj.length cap,.slice dG lp.rows.length dE] (.t tyU0)):=⟨_,rfl⟩;have av:K pm H H1:=by rw[cw];exact K.new g _
 have g1:=av.aL;have h4:H1.get jW=some (.cells [.slice base lp.aj.length cap,.slice dG lp.rows.length dE] (.t tyU0)):=by rw[cw,jR];exact dT
 obtain⟨bJ,zq0⟩:∃b,b=H1.next:=⟨_,rfl⟩;obtain⟨aJ,ee⟩:∃aJ,aJ=H1.new (.cells [.slice none 0 0,.slice none 0 0] (.t tyU1)):=⟨_,rfl⟩;have aI:K pm H1 aJ:=by rw[ee];exact K.new g1 _
 have g2:=aI.aL;have ayQ:aJ.get bJ=some (.cells [.slice none 0 0,.slice none 0 0] (.t tyU1)):=by rw[ee,zq0];exact dT
 have P9:=aI.some g1 h4;have h8:=av.trans aI;have n1:H1.next=jW+1:=by rw[cw,jR];rfl
 have bQO:aJ.next=bJ+1:=by rw[ee,zq0];rfl
 obtain⟨gM,lc,ayR,JK,mY⟩:=PX (by':=72) (k:=min lp.aj.length 6) (af.imp (h8.ext g) λ_ _ _ h=>h) (Nat.min_le_left _ _) (by decide) (by omega) (by decide) (λi cs ⟨c,_,e⟩=>by rw[e];rfl);obtain⟨eW,cc,e8,P',nk⟩:=PX (by':=80) (k:=min lp.rows.length 6) (hO.imp an (h8.ext g) λ_ _ _ h=>h) (Nat.min_le_left _ _) (by decide) (by omega) (by decide) (λi cs ⟨c,vc,_,e,e2⟩=>by
  rw[e];obtain⟨_,_,bd,_⟩:=e2;rw[bd];rfl)
 have Qa:∀x∈gM,x<aJ.next:=λx az=>by obtain⟨y,bu⟩:=ayR x az;exact g2.lt bu
 have JL:∀x∈eW,x<aJ.next:=λx az=>by obtain⟨y,bu⟩:=e8 x az;exact g2.lt bu
 obtain⟨dn,sN⟩:∃k,k=min lp.aj.length 6:=⟨_,rfl⟩;obtain⟨dc,oB⟩:∃k,k=min lp.rows.length 6:=⟨_,rfl⟩;rw[<-sN]at mY JK;rw[<-oB]at nk P';have m1:=YW lp.aj.length;have m2:=YW lp.rows.length;rw[<-sN]at m1;rw[<-oB]at m2;obtain⟨z,bl⟩:∃z,z=aJ.next:=⟨_,rfl⟩;have bE:K pm aJ (aJ.up 19):=(K.refl g2).up 19;have Y7:=bE.ext g2;obtain⟨fL,fc⟩:∃A,A=mD (aJ.up 19) (z+7) dn 5 lc:=⟨_,rfl⟩;have hD:K pm aJ fL:=by rw[fc];exact bp.mD bE (by omega) (by rw[bl];exact g2.none 7) (by show z+7<aJ.next+19;omega)
 have cy:=(mY _ Y7 pm.lo (z+6) pm.ok).1;have dd:=(mY _ Y7 pm.lo (z+7) pm.ok).2;have Y8:=hD.ext g2;obtain⟨fV,fg⟩:∃A,A=mD fL (z+15) dc 5 cc:=⟨_,rfl⟩;have oP:∀j,j≠7->fL.get (z+j)=none:=λj aH=>by rw[fc,JD (by omega),bl];exact g2.none j
 have P1:fL.next=z+19:=by rw[fc,PV,bl];rfl
 have Y9:K pm aJ fV:=by rw[fg];exact bp.mD hD (by omega) (oP 15 (by decide)) (by omega)
 have dy:=(nk _ Y8 pm.lo (z+14) pm.ok).1;have iZ:=(nk _ Y8 pm.lo (z+15) pm.ok).2;have rL:∀j,j≠7->j≠15->fV.get (z+j)=none:=λj aH j8=>by rw[fg,JD (by omega)];exact oP j aH
 have ayS:fV.next=z+19:=by rw[fg,PV,P1]
 rw[<-fc]at dd;rw[<-fg]at iZ;have ayT:=hD.some g2 P9;have ayU:=Y9.some g2 P9;simp[g.pick,g.make,ptr,<-jR,<-cw,  <-zq0,<-ee,-JM];refine eg.of g2.lo rfl ?_;rw[<-bl];have mS:=λj=>(by rw[bl];exact g2.none j:(aJ.up 19).get (z+j)=none);have FA:=(by rw[bl];exact g2.fo:(aJ.up 19).get z=none);have oN:∀b i,fG (sl b i)=true:=λb i=>by unfold sl;split<;>rfl
 have oO:∀b i,(sl b i).cells=#[sl b i]:=λb i=>by unfold sl;split<;>rfl
 obtain⟨fW,fp⟩:∃A,A=fV.put (z+17) (.cells [.slice none 0 0,.slice none 0 0] (.t tyU2)):=⟨_,rfl⟩;obtain⟨oQ,km⟩:∃A,A=fW.put (z+17) (.cells [sl (z+7) dn,sl (z+15) dc] (.t tyU2)):=⟨_,rfl⟩;have uy:fW.get (z+18)=none:=by rw[fp,cq (by omega)];exact rL 18 (by decide) (by decide)
 have Qb:fW.get (z+17)=some (.cells [.slice none 0 0,.slice none 0 0] (.t tyU2)):=by rw[fp];exact dX
 have x9:=λo=>jh (lo:=pm.lo) (ok:=pm.ok) (o:=o) (b:=z+17) (by have:=g2.lo;omega);have ayV:jW<z:=by omega
 have lb:∀j k,∀x∈rI (z+j) k,z<=x:=λj k x az=>by rw[JE az];omega
 have jR:∀x∈[jW],x<z:=λx az=>by rw[DZ.1 az];omega
 have Qc:∀x∈[z+17],z<=x:=λx az=>by rw[DZ.1 az];omega
 rw[<-bl]at Qa JL;have d1:=λj k=>(zX jR (lb j k)).2;have d2:=λj k=>(zX JL (lb j k)).2;have d3:=(zX jR Qc).2;have d4:=(zX Qa Qc).2;have d5:=(zX JL Qc).2;have d6:=(YV (n:=dn) (show z+7≠z+17 by omega)).2;have d7:=(YV (n:=dc) (show z+15≠z+17 by omega)).2;have d8:=zX (a:=rI (z+7) dn) (b:=rI (z+15) dc) (n:=z+8) (λx az=>by rw[JE az];omega) (λx az=>by rw[JE az];omega);have f1:∀b∈gM,b<z∨z+19<=b:=λb ai=>.inl (Qa b ai);have f2:∀b∈eW,b<z∨z+19<=b:=λb ai=>.inl (JL b ai);simp[d1,d2,d3,d4,d5,d6,d7,  ayV, ez,dt,mS,FA,P9,m1,cy,dd,oP,ayT,m2,dy,iZ,rL, oO,oN,setCells,c5,Perm.make,Perm.pick,ptr,<-fp,uy,Qb,x9,<-km,dx,dm,-hV,-JM];refine⟨⟨λx az=>.inl (.inl (f1 x az)),λx az=>.inl (.inl (f1 x az)),λx az=>.inl (.inl (f2 x az)),λx az=>.inl (.inl (f2 x az))⟩,?_⟩;have ayW:fW.next=z+19:=by rw[fp];exact ayS
 have ayX:K pm aJ fW:=by rw[fp];exact bp.fill Y9 (by omega) (rL 17 (by decide) (by decide)) (by omega) _
 have JN:K pm aJ oQ:=by rw[km];exact bp.put ayX (by omega) Qb (by simp) _
 have aGq:oQ.next=z+19:=by rw[km];exact ayW
 have q:CI H bJ (z+17) (z+7) (z+15):=⟨by omega,by omega,by omega,by omega⟩;obtain⟨ac,rM⟩:∃f:Nat->eu,∀j,j<lp.aj.length->lp.aj[j]? = some (f j):=⟨λj=>lp.aj.getD j ⟨[],[],[],[],false⟩,λj aH=>by simp[aH]⟩;obtain⟨ar,py⟩:∃f:Nat->di,∀j,j<lp.rows.length->lp.rows[j]? = some (f j):=⟨λj=>lp.rows.getD j ⟨[],0,[],[],[]⟩,λj aH=>by simp[aH]⟩;obtain⟨v0,iy⟩:∃v0:Nat->Value,∀j,j<dc->(cX cc (j*5) 5=some ((ar j).cells (v0 j))/\hO H (v0 j) (ar j).cM.length 2 λi cs=>∃c,(ar j).cM[i]? = some c/\cs=c.cells):=by
  have:∀j,∃v,j<dc->(cX cc (j*5) 5=some ((ar j).cells v)/\hO H v (ar j).cM.length 2 λi cs=>∃c,(ar j).cM[i]? = some c/\cs=c.cells):=λj=>by
   by_cases aH:j<dc
   ·obtain⟨cs,ao,r,vc,e2,rfl,bd⟩:=(P' (by omega)).2 j aH;rw[py j (by omega)]at e2;cases e2;exact⟨vc,λ_=>⟨ao,bd⟩⟩
   ·exact⟨.bool true,λh=>absurd h aH⟩
  exact⟨λj=>(this j).choose,λj=>(this j).choose_spec⟩
 have iQ:iR pm H oQ bJ (z+17) (z+7) (z+15) dn dc (λj=>(ac j).cells) (λj=>(ar j).cells (v0 j)):=by
  refine⟨K.trans h8 JN,JN.some g2 ayQ,by rw[km];exact dX,λh=>⟨lc,?_,jk.of (JK h).1 λj aH=>?_⟩,λh=>⟨cc,?_,jk.of (P' h).1 λj aH=>(iy j aH).1⟩⟩
  ·rw[km,cq (by omega),fp,cq (by omega),fg,JD (by omega),fc];exact PW h
  ·obtain⟨cs,ao,c,e2,rfl⟩:=(JK h).2 j aH;rw[rM j (by omega)]at e2;cases e2;exact ao
  ·rw[km,cq (by omega),fp,cq (by omega),fg];exact PW h
 have aGr:=JN.aL;have aGs:K pm H oQ:=K.trans h8 JN;clear fc fg fp km nk mY cy dd dy iZ oP rL uy Qb d1 d2 d3 d4 d5 d6 d7 d8 f1 f2 mS FA lb;obtain⟨iS,uz,_⟩:=uA (z+7) dn;obtain⟨aGt,Y',_⟩:=uA (z+15) dc;have sc:=iQ.x;rw[uz,Y']at sc;simp[sc,-Qd,-Qe]
 refine gG (σ:=Nat->Value) dc (λ_ _=>[(2,.pointer (some ⟨bJ,0,none⟩)),(3,.pointer (some ⟨z+17,0,none⟩))])
  (λi vcs H'=>iR pm H H' bJ (z+17) (z+7) (z+15) dn dc (λj=>(ac j).cells) (λj=>if j<i then(ar j).cut.cells (vcs j) else(ar j).cells (v0 j))/\∀j,j<i->nX H' (vcs j) (ar j).cut.cM/\np (z+16) (vcs j))
  v0 (by decide) (by omega) (by simp) ⟨by simpa using iQ,λj aH=>absurd aH (od _)⟩ (by simp) ?_ ?_
 ·rintro i vcs qJ ad ⟨qK,Qf⟩;refine ayG al g q qK (by omega) ad (r:=ar i) (vc:=v0 i) (by simp) (iy i ad).2 ?_;intro l' sM rJ Qg rK Fh e8 aK;have aGu:=qK.k.aL.lt qK.x;refine⟨λj=>if j=i then rJ else vcs j,Qg,?_,λj aH=>?_⟩
  ·have e:(λj=>if j=i then(ar i).cut.cells rJ else if j<i then(ar j).cut.cells (vcs j) else(ar j).cells (v0 j))=(λj=>if j<i+1 then(ar j).cut.cells (if j=i then rJ else vcs j) else(ar j).cells (v0 j)):=by
    funext j;by_cases e:j=i
    ·subst e;simp
    ·by_cases e2:j<i
     ·simp[e,e2,show j<i+1 by omega]
     ·simp[e,e2,show ¬j<i+1 by omega]
   rw[<-e];exact rK
  ·by_cases e:j=i
   ·subst e;simp only[if_true];exact⟨Fh,e8.mono (by omega)⟩
   ·simp only[e,if_false];obtain⟨U,aa⟩:=Qf j (by omega);exact⟨hi.ne U aa (by omega) aK,aa⟩
 ·rintro vcs qJ ⟨qK,Qf⟩;have Za:=qK.x;rw[uz,Y']at Za;simp[Za,-Qh,-Qi]
  refine gG (σ:=Unit) dn (λ_ _=>[(2,.pointer (some ⟨bJ,0,none⟩)),(3,.pointer (some ⟨z+17,0,none⟩))])
   (λi _ H'=>iR pm H H' bJ (z+17) (z+7) (z+15) dn dc (λj=>if j<i then(ac j).cut.cells else(ac j).cells) (λj=>if j<dc then(ar j).cut.cells (vcs j) else(ar j).cells (v0 j))/\∀j,j<dc->nX H' (vcs j) (ar j).cut.cM/\np (z+16) (vcs j))
   () (by decide) (by omega) (by simp) ⟨by simpa using qK,Qf⟩ (by simp) ?_ ?_
  ·rintro i _ sM ad ⟨rK,zZ⟩;refine ayL al g q rK (by omega) ad (c:=ac i) (by simp) ?_;intro l' CD Qg ayY aK;refine⟨(),Qg,?_,λj aH=>?_⟩
   ·have e:(λj=>if j=i then(ac i).cut.cells else if j<i then(ac j).cut.cells else(ac j).cells)=(λj=>if j<i+1 then(ac j).cut.cells else(ac j).cells):=by
     funext j;by_cases e:j=i
     ·subst e;simp
     ·by_cases e2:j<i
      ·simp[e,e2,show j<i+1 by omega]
      ·simp[e,e2,show ¬j<i+1 by omega]
    rw[<-e];exact ayY
   ·obtain⟨U,aa⟩:=zZ j aH;exact⟨hi.ne U aa (by omega) aK,aa⟩
  ·rintro _ sM ⟨rK,zZ⟩;have ayZ:=rK.x;have Zb:=rK.r;have JC:=rK.k.aL;have oN:∀b i,fG (sl b i)=true:=λb i=>by unfold sl;split<;>rfl
   have oO:∀b i,(sl b i).cells=#[sl b i]:=λb i=>by unfold sl;split<;>rfl
   have rH:pm.may bJ=true:=g.may (by omega);obtain⟨CD,CM⟩:∃A,A=sM.put bJ (.cells [sl (z+7) dn,sl (z+15) dc] (.t tyU1)):=⟨_,rfl⟩;simp[ayZ,Zb,cX,c5, oN,setCells,rH,<-CM];refine bU _ _ _ ?_;have ay0:CD.get bJ=some (.cells [sl (z+7) dn,sl (z+15) dc] (.t tyU1)):=by rw[CM];exact dX
   have CE:K pm H CD:=by rw[CM];exact bp.put rK.k (by omega) Zb (by simp) _
   simp[ik,ay0,cX,c5];refine⟨CE,?_⟩;have d':lp.cut.aj.length=dn:=by simp[bD.cut];omega
   have ld:lp.cut.rows.length=dc:=by simp[bD.cut];omega
   have ay1:0<dn->∃L,CD.get (z+7)=some (.cells L (.n 5))/\jk L 5 dn (λj=>if j<dn then(ac j).cut.cells else(ac j).cells):=λh=>(rK.c h).imp λL h=>⟨by rw[CM,cq (by omega)];exact h.1,h.2⟩;have z1:0<dc->∃L,CD.get (z+15)=some (.cells L (.n 5))/\jk L 5 dc (λj=>if j<dc then(ar j).cut.cells (vcs j) else(ar j).cells (v0 j)):=λh=>(rK.w h).imp λL h=>⟨by rw[CM,cq (by omega)];exact h.1,h.2⟩;refine⟨_,_,rfl,?_,?_,np.sl (by omega),np.sl (by omega)⟩
   ·unfold kI;rw[d'];refine jk.Y6 ay1 λi ad=>⟨(ac i).cut,?_,by simp[ad]⟩;simp[bD.cut, show i<6 by omega,rM i (by omega)]
   ·unfold uv;rw[ld];refine jk.Y6 z1 λi ad=>⟨(ar i).cut,vcs i,?_,by simp[ad],?_,(zZ i ad).2.mono (by omega)⟩
    ·simp[bD.cut, show i<6 by omega,py i (by omega)]
    ·exact hi.ne (zZ i ad).1 (zZ i ad).2 (b:=bJ) (by omega) λc y af h=>by rw[CM,cq af];exact h
def bQP(H:ah)(bQN:Nat)(v:Value)(k w:Nat)(P:Nat->List Value->Prop):Prop:=
 ∃base cap,v=.slice base k cap/\(base=none->k=0)/\∀a,base=some a->∃b off y row,a=⟨b,off,none⟩/\bQN<=b/\H.get b=some y/\rowOf y=some row/\off+k*w<=row.length/\∀i,i<k->∃cs,cX row (off+i*w) w=some cs/\P i cs
theorem bQP.sl{bQN k w:Nat}{v:Value}{P:Nat->List Value->Prop}(h:bQP H bQN v k w P):hi H v k w P:=by
 obtain⟨base,cap,rfl,aD,U⟩:=h;refine⟨base,cap,rfl,λi ad=>?_⟩
 cases base with
 | none=>have:=aD rfl;omega
 | some a=>
   obtain⟨b,off,y,row,rfl,_,aa,aq,_,a8⟩:=U _ rfl;obtain⟨cs,cg,dj⟩:=a8 i ad;exact⟨b,off,y,row,cs,rfl,aa,aq,cg,dj⟩
theorem bQP.imp{bQN k w:Nat}{v:Value}{P sA:Nat->List Value->Prop}(h:bQP H bQN v k w P)(e:Ext H H')(aC:∀i cs,i<k->P i cs->sA i cs):bQP H' bQN v k w sA:=by
 obtain⟨base,cap,rfl,aD,U⟩:=h;refine⟨base,cap,rfl,aD,λa aN=>?_⟩;obtain⟨b,off,y,row,ao,e2,bd,b1,cK,il⟩:=U a aN;exact⟨b,off,y,row,ao,e2,e _ _ bd,b1,cK,λi ad=>(il i ad).imp λcs q=>⟨q.1,aC i cs ad q.2⟩⟩
theorem bQP.cZB{bQN k w:Nat}{v:Value}{P sA:Nat->List Value->Prop}(h:bQP H bQN v k w P)(e:∀b y,bQN<=b->H.get b=some y->H'.get b=some y)(aC:∀i cs,i<k->P i cs->sA i cs):bQP H' bQN v k w sA:=by
 obtain⟨base,cap,rfl,aD,U⟩:=h;refine⟨base,cap,rfl,aD,λa aN=>?_⟩;obtain⟨b,off,y,row,ao,e2,bd,b1,cK,il⟩:=U a aN;exact⟨b,off,y,row,ao,e2,e _ _ e2 bd,b1,cK,λi ad=>(il i ad).imp λcs q=>⟨q.1,aC i cs ad q.2⟩⟩
theorem bQP.mono{bQN n1 k w:Nat}{v:Value}{P sA:Nat->List Value->Prop}(h:bQP H bQN v k w P)(aF:n1<=bQN)(aC:∀i cs,i<k->P i cs->sA i cs):bQP H n1 v k w sA:=by
 obtain⟨base,cap,rfl,aD,U⟩:=h;refine⟨base,cap,rfl,aD,λa aN=>?_⟩;obtain⟨b,off,y,row,ao,e2,bd,b1,cK,il⟩:=U a aN;exact⟨b,off,y,row,ao,bH aF e2,bd,b1,cK,λi ad=>(il i ad).imp λcs q=>⟨q.1,aC i cs ad q.2⟩⟩
theorem bQP.put{bQN k w b:Nat}{v:Value}{P sA:Nat->List Value->Prop}(h:bQP H bQN v k w P)(ai:b<bQN)(x:cj)(aC:∀i cs,i<k->P i cs->sA i cs):bQP (H.put b x) bQN v k w sA:=by
 obtain⟨base,cap,rfl,aD,U⟩:=h;refine⟨base,cap,rfl,aD,λa aN=>?_⟩;obtain⟨c,off,y,row,ao,e2,bd,b1,cK,il⟩:=U a aN;exact⟨c,off,y,row,ao,e2,by rw[cq (by omega)];exact bd,b1,cK,λi ad=>(il i ad).imp λcs q=>⟨q.1,aC i cs ad q.2⟩⟩
theorem bQP.cZQ{bQN k w:Nat}{v:Value}{P:Nat->List Value->Prop}(h:hi H v k w P)(bc:np bQN v):bQP H bQN v k w P:=by
 obtain⟨base,cap,rfl,eU⟩:=h.ex;refine⟨base,cap,rfl,λe=>?_,λa e=>?_⟩
 ·subst e;apply oa;intro hm;obtain⟨_,_,_,_,_,e,_⟩:=eU 0 (by omega);cases e
 ·subst e;have U:bQN<=a.block:=bc.1;have aa:0<k:=bc.2;obtain⟨b,off,y,row,cs,ao,e2,bd,b1,_⟩:=eU (k-1) (by omega);cases ao;refine⟨b,off,y,row,rfl,U,e2,bd,?_,λi ad=>?_⟩
  ·have:=(Fy b1).1;have e:(k-1)*w+w=k*w:=by
    rw[<-bZs];congr 1;omega
   omega
  ·obtain⟨b',aAr,mi,bQm,gg,bWc,g2,g3,g4,g5⟩:=eU i ad;cases bWc;rw[e2]at g2;cases g2;rw[bd]at g3;cases g3;exact⟨gg,g4,g5⟩
def bQR(H:ah)(lo ad:Nat)(v:Value)(k w:Nat)(f:Nat->List Value):Prop:=
 v=.slice none 0 0/\k=0∨∃b L,lo<=b/\b<ad/\v=.slice (some ⟨b,0,none⟩) k k/\H.get b=some (.cells L (.n w))/\jk L w k f
theorem bQR.form{lo ad k w:Nat}{v:Value}{f:Nat->List Value}(h:bQR H lo ad v k w f):∃base,v=.slice base k k:=by
 rcases h with⟨rfl,rfl⟩ | ⟨b,L,_,_,rfl,_⟩
 ·exact⟨_,rfl⟩
 ·exact⟨_,rfl⟩
theorem bQR.one{lo ad k w:Nat}{v:Value}{f:Nat->List Value}(h:bQR H lo ad v k w f):fG v=true/\v.cells=#[v]:=by
 obtain⟨base,rfl⟩:=h.form;exact⟨rfl,rfl⟩
theorem bQR.pos{lo ad k w:Nat}{v:Value}{f:Nat->List Value}(h:bQR H lo ad v k w f)(ag:0<k):∃b L,lo<=b/\b<ad/\v=.slice (some ⟨b,0,none⟩) k k/\H.get b=some (.cells L (.n w))/\jk L w k f:=by
 rcases h with⟨_,rfl⟩ | h
 ·omega
 ·exact h
theorem bQR.ext{lo ad k w:Nat}{v:Value}{f:Nat->List Value}(h:bQR H lo ad v k w f)(e:Ext H H'):bQR H' lo ad v k w f:=
 h.imp id λ⟨b,L,U,aa,aq,a8,cg⟩=>⟨b,L,U,aa,aq,e _ _ a8,cg⟩
theorem bQR.mono{lo ad lo' hi' k w:Nat}{v:Value}{f:Nat->List Value}(h:bQR H lo ad v k w f)(U:lo'<=lo)(aa:ad<=hi'):bQR H lo' hi' v k w f:=
 h.imp id λ⟨b,L,cx,a2,a3⟩=>⟨b,L,bH U cx,hR a2 aa,a3⟩
theorem bQR.put{lo ad k w c:Nat}{v:Value}{f:Nat->List Value}(h:bQR H lo ad v k w f)(af:c<lo∨ad<=c)(x:cj):bQR (H.put c x) lo ad v k w f:=
 h.imp id λ⟨b,L,U,aa,aq,a8,cg⟩=>⟨b,L,U,aa,aq,by rw[cq (by omega)];exact a8,cg⟩
theorem bQR.e{lo ad k w:Nat}{v:Value}{f:Nat->List Value}{P:Nat->List Value->Prop}(h:bQR H lo ad v k w f)(zt:∀i,i<k->P i (f i)):bQP H lo v k w P:=by
 rcases h with⟨rfl,rfl⟩ | ⟨b,L,U,aa,rfl,a8,cg⟩
 ·exact⟨none,0,rfl,λ_=>rfl,λa h=>(by cases h)⟩
 ·refine⟨_,_,rfl,λh=>(by cases h),λa h=>?_⟩;cases h;exact⟨b,0,_,L,rfl,U,a8,rfl,by rw[cg.1];omega,λi ad=>⟨f i,by rw[Nat.zero_add];exact cg.row ad,zt i ad⟩⟩
theorem bQR.congr{lo ad k w:Nat}{v:Value}{f f':Nat->List Value}(h:bQR H lo ad v k w f)(bc:∀j,j<k->f' j=f j):bQR H lo ad v k w f':=
 h.imp id λ⟨b,L,U,aa,aq,a8,cg⟩=>⟨b,L,U,aa,aq,a8,cg.1,λj aH=>by rw[bc j aH];exact cg.2 j aH⟩
def cZC(w by':Nat):b2:=⟨8,(.seq (.aT [o 2 (.aM (.c (.slice none 0 0)))]) (.seq (.seq (.aT [m 3 0,o 4 (.bin .eql (.nil .jN) (.t 3) (.c (.slice none 0 0)))]) (.cond (.t 4) (.seq (.aT [o 2 (.aM (.c (.slice none 0 0)))]) .ret) .skip)) (.seq (.aT [o 5 (.buildSlice [] w 0 []),m 6 0,o 7 (.append w by' (.t 5) (.t 6)),m 2 7]) .ret))),[.slot 2]⟩
theorem cZR{X' w by':Nat}(al:Has X X' (cZC w by'))(g:cl pm H){v:Value}{k bQN:Nat}{P:Nat->List Value->Prop}(aw:bQP H bQN v k w P)(hw:1<=w)(ag:k<=1000)(hK:by'<=200)(zt:∀i cs,P i cs->cs.all fG=true):
 Call X pm X' [v] H λr H'=>K pm H H'/\∃f,bQR H' H.next H'.next r k w f/\∀i,i<k->P i (f i):=by
 refine Call.has al rfl ?_;obtain⟨base,cap,rfl,aD,U⟩:=aw
 cases base with
 | none=>
   obtain rfl:k=0:=aD rfl;simp[cZC];exact⟨K.refl g,λ_=>[],.inl ⟨rfl,rfl⟩⟩
 | some a=>
   obtain⟨b,off,y,row,rfl,_,aa,aq,a8,cg⟩:=U _ rfl;have av:=K.new g (.cells [] (.n w));have g1:=av.aL;have h4:(H.new (.cells [] (.n w))).get H.next=some (.cells [] (.n w)):=dT;have gN:=av.some g aa;have rH:pm.may H.next=true:=g.may (bR _);by_cases e:k=0
   ·subst e;have x7:cX row off (0*w)=some []:=by rw[CG (by omega)];simp
    simp[cZC,g.make,g.pick,fill,gN,aq,iV]at x7|-;simp[x7];exact⟨av,λ_=>[],.inr ⟨_,[],bR _,bYn _,rfl,h4,by simp,λj aH=>absurd aH (od _)⟩⟩
   ·obtain⟨l,ao,e2,bd⟩:=ayx (n:=k) (row:=row) (off:=off) (w:=w) (by omega) (λi ad=>(cg i ad).imp λ_ h=>h.1);have aO:∀i,i<k->∃cs,cX l (i*w) w=some cs/\P i cs:=λi ad=>by
     obtain⟨cs,bn,bh⟩:=cg i ad;exact⟨cs,by rw[bd i ad,bn],bh⟩
    obtain⟨f,qw,bc⟩:=jk.ex e2 aO;have mc:l.all fG=true:=by
     rw[hz];intro v aw;obtain⟨p,aC,rfl⟩:=bXH aw;have ri:p<k*w:=by omega
     have aV:p/w<k:=bYj (by rw[gw];exact ri);have Ei:=hz.1 (zt _ _ (bc _ aV));have ayE:p%w<w:=bZU _ (by omega);have mm:=(qw.2 _ aV).2 _ ayE;have e:p/w*w+p%w=p:=by rw[gw];exact bYO p w
     rw[e,hG aC]at mm;exact Ei _ (fR mm.symm)
    have vu:k*by'<=17179869184:=bH (ie ag hK) (by decide);have fm:K pm H (((H.new (.cells [] (.n w))).put H.next .dead).new (.cells l (.n w))):=bp.new (bp.put av (bR _) h4 (by simp) _) (bYE _) _;have avS:cX [] 0 0=some []:=rfl;simp[cZC,g.make,g.pick,fill,gN,aq,ao,iV,e,vu,hw,h4,rH,mc,avS,show k<=17179869184 by omega];exact⟨fm,f,.inr ⟨_,l,bYE _,bYn _,rfl,dT,qw⟩,bc⟩
end Go.Dam.C
namespace Go.Dam.C
open Go Go.Dam
variable{X:aY}{pm:Perm}{H H' cL H0:ah}{n:Nat}
structure cZD(X:aY):Prop extends bYF X where
 cZh:Has X F.cZh C.cZh
 cZi:Has X F.cZi C.cZi
 cZj:Has X F.cZj C.cZj
 cZc:Has X F.cZc C.cZc
abbrev bQT:Nat:=T.cXF
abbrev cZE:Nat:=T.cXG
def cZo(l:List fb)(i:Nat)(cs:List Value):Prop:=∃c,l[i]? = some c/\cs=c.cells
def cYE(l:List eu)(i:Nat)(cs:List Value):Prop:=∃c,l[i]? = some c/\cs=c.cells
def cXH(H:ah)(bQN:Nat)(l:List di)(i:Nat)(cs:List Value):Prop:=∃r vc,l[i]? = some r/\cs=r.cells vc/\bQP H bQN vc r.cM.length 2 (cZo r.cM)
def bQW(H:ah)(bQN:Nat)(v:Value)(l:List di):Prop:=bQP H bQN v l.length 5 (cXH H bQN l)
def bQU(H:ah)(bQN:Nat)(v:Value)(lp:bD):Prop:=∃v1 v2,v=.agg #[v1,v2]/\bQP H bQN v1 lp.aj.length 5 (cYE lp.aj)/\bQW H bQN v2 lp.rows
theorem bQW.ext{bQN:Nat}{v:Value}{l:List di}(h:bQW H bQN v l)(e:Ext H H'):bQW H' bQN v l:=bQP.imp h e λ_ _ _ ⟨r,vc,ao,e2,bd⟩=>⟨r,vc,ao,e2,bd.imp e λ_ _ _ h=>h⟩
theorem bQW.cZS{bQN:Nat}{v:Value}{l:List di}(h:bQW H bQN v l)(e:∀b y,bQN<=b->H.get b=some y->H'.get b=some y):bQW H' bQN v l:=bQP.cZB h e λ_ _ _ ⟨r,vc,ao,e2,bd⟩=>⟨r,vc,ao,e2,bd.cZB e λ_ _ _ h=>h⟩
theorem bQW.mono{bQN n1:Nat}{v:Value}{l:List di}(h:bQW H bQN v l)(aF:n1<=bQN):bQW H n1 v l:=bQP.mono h aF λ_ _ _ ⟨r,vc,ao,e2,bd⟩=>⟨r,vc,ao,e2,bd.mono aF λ_ _ _ h=>h⟩
theorem bQW.put{bQN b:Nat}{v:Value}{l:List di}(h:bQW H bQN v l)(ai:b<bQN)(x:cj):bQW (H.put b x) bQN v l:=bQP.put h ai x λ_ _ _ ⟨r,vc,ao,e2,bd⟩=>⟨r,vc,ao,e2,bd.put ai x λ_ _ _ h=>h⟩
theorem bQW.rows{bQN:Nat}{v:Value}{l:List di}(h:bQW H bQN v l):nY H v l:=hi.imp (bQP.sl h) (λ_ _ e=>e) λ_ _ _ ⟨r,vc,ao,e2,bd⟩=>⟨r,vc,ao,e2,bd.sl⟩
theorem bQU.ext{bQN:Nat}{v:Value}{lp:bD}(h:bQU H bQN v lp)(e:Ext H H'):bQU H' bQN v lp:=by
 obtain⟨v1,v2,rfl,U,aa⟩:=h;exact⟨v1,v2,rfl,U.imp e λ_ _ _ h=>h,aa.ext e⟩
theorem bQU.cZS{bQN:Nat}{v:Value}{lp:bD}(h:bQU H bQN v lp)(e:∀b y,bQN<=b->H.get b=some y->H'.get b=some y):bQU H' bQN v lp:=by
 obtain⟨v1,v2,rfl,U,aa⟩:=h;exact⟨v1,v2,rfl,U.cZB e λ_ _ _ h=>h,aa.cZS e⟩
theorem bQU.mono{bQN n1:Nat}{v:Value}{lp:bD}(h:bQU H bQN v lp)(aF:n1<=bQN):bQU H n1 v lp:=by
 obtain⟨v1,v2,rfl,U,aa⟩:=h;exact⟨v1,v2,rfl,U.mono aF λ_ _ _ h=>h,aa.mono aF⟩
theorem bQU.put{bQN b:Nat}{v:Value}{lp:bD}(h:bQU H bQN v lp)(ai:b<bQN)(x:cj):bQU (H.put b x) bQN v lp:=by
 obtain⟨v1,v2,rfl,U,aa⟩:=h;exact⟨v1,v2,rfl,U.put ai x λ_ _ _ h=>h,aa.put ai x⟩
theorem bQU.lp{bQN:Nat}{v:Value}{lp:bD}(h:bQU H bQN v lp):ps H v lp:=by
 obtain⟨v1,v2,rfl,U,aa⟩:=h;exact⟨v1,v2,rfl,U.sl,aa.rows⟩
theorem sL.e{bQN:Nat}{v:Value}{lp:bD}(h:sL H bQN v lp):bQU H bQN v lp:=by
 obtain⟨v1,v2,rfl,U,aa,aq,a8⟩:=h;exact⟨v1,v2,rfl,.cZQ U aq,bQP.mono (.cZQ aa a8) (bR _) λ_ _ _ ⟨r,vc,ao,e2,bd,b1⟩=>⟨r,vc,ao,e2,.cZQ bd b1⟩⟩
def cZT(H:ah)(bQN:Nat)(r:Value)(lp:bD):Prop:=∃fQ fm n1,r=.agg #[fQ,fm]/\bQN<=n1/\bQR H bQN n1 fQ lp.aj.length 5 (λj=>(lp.col j).cells)/\bQW H n1 fm lp.rows
theorem cZT.e{bQN:Nat}{r:Value}{lp:bD}(h:cZT H bQN r lp):bQU H bQN r lp:=by
 obtain⟨fQ,fm,n1,rfl,aD,U,aa⟩:=h;exact⟨fQ,fm,rfl,U.e λi ad=>⟨_,bD.Cn ad,rfl⟩,aa.mono aD⟩
structure cZa(pm:Perm)(H0 H:ah)(bG cO bQN n1 bQO:Nat)(fQ fm:Value)(lp:bD)(eW:Nat->List Value):Prop where
 k:K pm H0 H
 r:H.get bG=some (.cells [.slice none 0 0,.slice none 0 0] (.t bQT))
 x:H.get cO=some (.cells [fQ,fm] (.t bQT))
 c:bQR H bQN n1 fQ lp.aj.length 5 λj=>(lp.col j).cells
 w:bQR H n1 bQO fm lp.rows.length 5 eW
 eF:bQO<=H.next
structure cZU(H0:ah)(bG cO bQN n1 bQO:Nat):Prop where
 U:H0.next<=bG
 aa:bG<cO
 aq:cO<bQN
 a8:bQN<=n1
 cg:n1<=bQO
variable{bG cO bQN n1 bQO:Nat}{fQ fm:Value}{lp:bD}{eW:Nat->List Value}
theorem cZa.up(s:cZa pm H0 H bG cO bQN n1 bQO fQ fm lp eW)(u:K pm H H'):cZa pm H0 H' bG cO bQN n1 bQO fQ fm lp eW where
 k:=K.trans s.k u
 r:=u.some s.k.aL s.r
 x:=u.some s.k.aL s.x
 c:=s.c.ext (u.ext s.k.aL)
 w:=s.w.ext (u.ext s.k.aL)
 eF:=bH s.eF u.next
theorem cZa.row(s:cZa pm H0 H bG cO bQN n1 bQO fQ fm lp eW)(o:cZU H0 bG cO bQN n1 bQO){PY:Nat->List Value}{i k ev:Nat}{v:Value}(ad:i<lp.rows.length)(ag:k<5)(bc:PY i=(eW i).set k v)(aF:∀j,j<lp.rows.length->j≠i->PY j=eW j){L:List Value}(hu:fm=.slice (some ⟨ev,0,none⟩) lp.rows.length lp.rows.length)(bC:H.get ev=some (.cells L (.n 5))):
 cZa pm H0 (H.put ev (.cells (L.set (i*5+k) v) (.n 5))) bG cO bQN n1 bQO fQ fm lp PY:=by
 obtain⟨b,L',cR,b9,e,U,aa⟩:=s.w.pos (by omega);rw[hu]at e;cases e;rw[bC]at U;cases U;have aGd:=o.U;have HH:=o.aa;have Oe:=o.aq;have cXI:=o.a8;exact⟨bp.put s.k (by omega) bC (by simp) _,by rw[cq (by omega)];exact s.r,by rw[cq (by omega)];exact s.x,s.c.put (.inr cR) _,.inr ⟨ev,_,cR,b9,hu,dX,aa.set ad ag v bc aF⟩,s.eF⟩
theorem cXJ(al:cZD X)(g0:cl pm H0)(Z7:cZU H0 bG cO bQN n1 bQO)(s:cZa pm H0 H bG cO bQN n1 bQO fQ fm lp eW){i m0:Nat}(ad:i<lp.rows.length){r:di}{vc:Value}(an:eW i=r.cells vc)
 (nd:bQP H0 m0 vc r.cM.length 2 (cZo r.cM)) (hlen:r.cM.length<=1000) {R:c'}
 (dD:∀l' H' rJ,Sub [(16,.int .i64 (i:Int)),(15,.int .i64 (lp.rows.length:Int)),(2,.pointer (some ⟨bG,0,none⟩)),(3,.pointer (some ⟨cO,0,none⟩)),(14,fm)] l'->cZa pm H0 H' bG cO bQN n1 bQO fQ fm lp (λj=>if j=i then r.cells rJ else eW j)->
  bQP H' bQO rJ r.cM.length 2 (cZo r.cM)->(∀b y,bQO<=b->H.get b=some y->H'.get b=some y)->R .normal l' H'):
 wp X pm (.code (.seq (.aT [m 18 16,o 19 (.ho 5 (.t 14) (.t 16)),o 20 (.load true 5 (.t 19)),o 5 (.alloc cZE [(.string ⟨#[]⟩),(.int .i64 (.ofNat 0)),(.slice none 0 0),(.string ⟨#[]⟩),(.string ⟨#[]⟩)]),m 4 18,⟨none,none,.store 5 (.t 5) (.t 20)⟩]) C.cZV)) [(17,.bool true),(16,.int .i64 (i:Int)),(15,.int .i64 (lp.rows.length:Int)),(2,.pointer (some ⟨bG,0,none⟩)),(3,.pointer (some ⟨cO,0,none⟩)),(14,fm)] H [] R:=by
 have g:=s.k.aL;have aGd:=Z7.U;have HH:=Z7.aa;have Oe:=Z7.aq;have cXI:=Z7.a8;have cWP:=Z7.cg;have eT:=g.lt s.x;have eF:=s.eF;obtain⟨ev,L,cR,b9,hu,bC,mV⟩:=s.w.pos (by omega);have cK:cX L (i*5) 5=some [aW r.name,.int .i64 r.kind,vc,aW r.rhs,aW r.Ff]:=by rw[mV.row ad,an];rfl
 obtain⟨base,cap,e,_⟩:=id nd;subst e;obtain⟨q,aV⟩:∃q,q=H.next:=⟨_,rfl⟩;obtain⟨H1,cw⟩:∃A,A=(H.new (.cells [.string ⟨#[]⟩,.int .i64 0,.slice none 0 0,.string ⟨#[]⟩,.string ⟨#[]⟩] (.t cZE))).put q (.cells [aW r.name,.int .i64 r.kind,.slice base r.cM.length cap,aW r.rhs,aW r.Ff] (.t cZE)):=⟨_,rfl⟩;have av:K pm H H1:=by rw[cw,aV];exact mv g _ _ (by simp)
 have g1:=av.aL;have lK:H1.get q=some (.cells [aW r.name,.int .i64 r.kind,.slice base r.cM.length cap,aW r.rhs,aW r.Ff] (.t cZE)):=by rw[cw];exact dX
 have qp:∀x,(H.new x).get q=some x:=λx=>by rw[aV];exact dT
 have cXK:pm.may q=true:=g.may (by omega);have cWQ:H1.next=q+1:=by rw[cw,aV];rfl
 have kR:=av.some g s.x;have FD:=av.some g bC;obtain⟨z,bl⟩:∃z,z=H1.next:=⟨_,rfl⟩;have bE:K pm H1 (H1.up 9):=(K.refl g1).up 9;have mS:=λj=>(by rw[bl];exact g1.none j:(H1.up 9).get (z+j)=none);have FA:=(by rw[bl];exact g1.fo:(H1.up 9).get z=none);rw[hu]at kR;simp[hu,bC,ad,cK,g.pick,g.make,ptr,c5,<-aV,qp,cXK,setCells,<-cw];refine eg.of g1.lo rfl ?_;rw[<-bl];simp[dt,mS,FA,kR,lK];refine GA bE.aL (vs:=[.slice base r.cM.length cap]) (by simp[mS]) (by simp) (by simp) rfl (λpm' bS=>cZR (w:=2) (by':=24) al.cZj bS (nd.imp ((K.trans s.k (K.trans av bE)).ext g0) λ_ _ _ h=>h) (by decide) hlen (by decide) (λi cs ⟨c,_,e⟩=>by rw[e];rfl)) ?_;rintro rJ aJ aI ⟨f,qw,bc⟩;have g2:=aI.aL;have e0:K pm H1 aJ:=K.trans bE aI;have dW:=e0.some g1 kR;have kz:=e0.some g1 FD;have ot:=aI.res g1;obtain⟨aGh,e⟩:=qw.form;subst e;have iS:setCells L (i*5+2) [.slice aGh r.cM.length r.cM.length]=some (L.set (i*5+2) (.slice aGh r.cM.length r.cM.length)):=setCells_one (mV.lt ad (show 2<5 by decide));obtain⟨bN,iO⟩:∃A,A=aJ.put ev (.cells (L.set (i*5+2) (.slice aGh r.cM.length r.cM.length)) (.n 5)):=⟨_,rfl⟩;have ya:=λq=>jh (lo:=pm.lo) (ok:=pm.ok) (o:=q) (b:=ev) (by have:=g0.lo;omega);have iM:ev<z:=by omega
 have bVb:cO<z:=by omega
 have cXL:q<z:=by omega
 rw[<-bl]at ot;simp[ot,ad,iS,kz,ya,<-iO,dx,dm,eJ,ez,gI,iM,bVb,cXL];have s2:cZa pm H0 bN bG cO bQN n1 bQO fQ fm lp (λj=>if j=i then r.cells (.slice aGh r.cM.length r.cM.length) else eW j):=by
  rw[iO];exact(s.up (K.trans av e0)).row Z7 ad (by decide) (by simp[an,di.cells]) (λj _ h=>by simp[h]) hu kz
 refine dD _ _ _ (by simp[hu]) s2 ?_ λb y ai h=>?_
 ·have aq:bQR bN (H1.up 9).next aJ.next (.slice aGh r.cM.length r.cM.length) r.cM.length 2 f:=by
   rw[iO];exact qw.put (.inl (by show ev<H1.next+9;omega)) _
  exact(aq.e bc).mono (by show bQO<=H1.next+9;omega) λ_ _ _ h=>h
 ·rw[iO,cq (by omega)];exact(K.trans av e0).some g h
theorem cYF(al:cZD X)(g:cl pm H){v:Value}{lp:bD}{bQN:Nat}(aw:bQU H bQN v lp)(af:lp.aj.length<=1000)(an:lp.rows.length<=1000)(Fh:∀i,i<lp.rows.length->(lp.row i).cM.length<=1000):
 Call X pm F.cZc [v] H λr H'=>K pm H H'/\cZT H' H.next r lp:=by
 refine Call.h6 al.cZc rfl λQ bU=>?_;obtain⟨v1,v2,rfl,U,aa⟩:=aw;obtain⟨bQX,bQY,ao,_⟩:=id U;obtain⟨dG,dE,e2,_⟩:=id aa;subst ao e2;obtain⟨bJ,zq0⟩:∃b,b=H.next:=⟨_,rfl⟩;obtain⟨H1,cw⟩:∃H1,H1=H.new (.cells [.slice bQX lp.aj.length bQY,.slice dG lp.rows.length dE] (.t bQT)):=⟨_,rfl⟩;have av:K pm H H1:=by rw[cw];exact K.new g _
 have g1:=av.aL;have h4:H1.get bJ=some (.cells [.slice bQX lp.aj.length bQY,.slice dG lp.rows.length dE] (.t bQT)):=by rw[cw,zq0];exact dT
 obtain⟨bG,lk⟩:∃b,b=H1.next:=⟨_,rfl⟩;obtain⟨aJ,ee⟩:∃aJ,aJ=H1.new (.cells [.slice none 0 0,.slice none 0 0] (.t bQT)):=⟨_,rfl⟩;have aI:K pm H1 aJ:=by rw[ee];exact K.new g1 _
 have g2:=aI.aL;have RI:aJ.get bG=some (.cells [.slice none 0 0,.slice none 0 0] (.t bQT)):=by rw[ee,lk];exact dT
 have ayQ:=aI.some g1 h4;have h8:=av.trans aI;have n1:H1.next=bJ+1:=by rw[cw,zq0];rfl
 have bQO:aJ.next=bG+1:=by rw[ee,lk];rfl
 obtain⟨z,bl⟩:∃z,z=aJ.next:=⟨_,rfl⟩;have bE:K pm aJ (aJ.up 9):=(K.refl g2).up 9;have mS:=λj=>(by rw[bl];exact g2.none j:(aJ.up 9).get (z+j)=none);have FA:=(by rw[bl];exact g2.fo:(aJ.up 9).get z=none);obtain⟨fL,fc⟩:∃A,A=(aJ.up 9).put (z+4) (.cells [.slice none 0 0,.slice none 0 0] (.t bQT)):=⟨_,rfl⟩;have hD:K pm aJ fL:=by rw[fc];exact bp.fill bE (by omega) (mS 4) (by show z+4<aJ.next+9;omega) _
 have TG:fL.next=z+9:=by rw[fc,bl];rfl
 have oP:∀j,j≠4->fL.get (z+j)=none:=λj aH=>by rw[fc,cq (by omega)];exact mS j
 have YY:fL.get (z+4)=some (.cells [.slice none 0 0,.slice none 0 0] (.t bQT)):=by rw[fc];exact dX
 have cZk:=hD.aL;have ayT:=hD.some g2 ayQ;simp[g.pick,g.make,ptr,<-zq0,<-cw,  <-lk,<-ee,-cZr];refine eg.of g2.lo rfl ?_;rw[<-bl];simp[dt,mS,FA,ayQ,Perm.make,Perm.pick,ptr,<-fc,-cZr];refine GA cZk (vs:=[.slice bQX lp.aj.length bQY]) (by simp[oP]) (by simp) (by simp) rfl (λpm' bS=>cZR (w:=5) (by':=72) al.cZh bS (U.imp ((h8.trans hD).ext g) λ_ _ _ h=>h) (by decide) af (by decide) (λi cs ⟨c,_,e⟩=>by rw[e];rfl)) ?_;rintro fQ bN aQ ⟨f1,cy,sn⟩;have g3:=aQ.aL;have jH:=K.trans h8 (K.trans hD aQ);have YI:=aQ.next;have uy:∀j,j<9->j≠4->bN.get (z+j)=none:=λj aH j8=>(aQ.get _ (by omega)).trans (oP j j8);simp[-cZr];refine GA g3 (vs:=[.slice dG lp.rows.length dE]) (by simp[uy]) (by simp) (by simp) rfl (λpm' bS=>cZR (w:=5) (by':=80) al.cZi bS (aa.imp (jH.ext g) λ_ _ _ h=>h) (by decide) an (by decide) (λi cs ⟨r,vc,_,e,base,cap,bd,_⟩=>by rw[e,bd];rfl)) ?_;rintro fm cp bt ⟨f2,dd,Py⟩;have g4:=bt.aL;have ji:=K.trans aQ bt;have jY:=K.trans jH bt;have cZW:=bt.next;have DH:∀j,j<9->j≠4->cp.get (z+j)=none:=λj aH j8=>(bt.get _ (by omega)).trans (uy j aH j8);have cYG:=ji.some cZk YY;obtain⟨cR,e⟩:=cy.form;subst e;obtain⟨b9,e⟩:=dd.form;subst e;have cWR:z+4<cp.next:=by omega
 have x9:=λo=>jh (lo:=pm.lo) (ok:=pm.ok) (o:=o) (b:=z+4) (by have:=g2.lo;omega);obtain⟨fV,fg⟩:∃A,A=cp.put (z+4) (.cells [.slice cR lp.aj.length lp.aj.length,.slice b9 lp.rows.length lp.rows.length] (.t bQT)):=⟨_,rfl⟩;have cXM:bJ<z:=by omega
 have cZX:gp [z+4] [bJ]=true:=kS (by omega);simp[DH,cYG,setCells,c5,x9,<-fg,cZX,dx,dm,eJ,ez,gI,cXM,-cZr];have sK:∀j,j<lp.rows.length->∃v,f2 j=(lp.row j).cells v/\bQP H bQN v (lp.row j).cM.length 2 (cZo (lp.row j).cM):=λj aH=>by
  obtain⟨r,vc,ao,e2,bd⟩:=Py j aH;rw[bD.rowAt aH]at ao;cases ao;exact⟨vc,e2,bd⟩
 obtain⟨v0,iy⟩:∃v0:Nat->Value,∀j,j<lp.rows.length->f2 j=(lp.row j).cells (v0 j)/\bQP H bQN (v0 j) (lp.row j).cM.length 2 (cZo (lp.row j).cM):=by
  have:∀j,∃v,j<lp.rows.length->f2 j=(lp.row j).cells v/\bQP H bQN v (lp.row j).cM.length 2 (cZo (lp.row j).cM):=λj=>by
   by_cases aH:j<lp.rows.length
   ·obtain⟨v,q⟩:=sK j aH;exact⟨v,λ_=>q⟩
   ·exact⟨.bool true,λh=>absurd h aH⟩
  exact⟨λj=>(this j).choose,λj=>(this j).choose_spec⟩
 have o:cZU H bG (z+4) fL.next bN.next cp.next:=⟨by omega,by omega,by omega,YI,cZW⟩;have iQ:cZa pm H fV bG (z+4) fL.next bN.next cp.next (.slice cR lp.aj.length lp.aj.length) (.slice b9 lp.rows.length lp.rows.length) lp (λj=>(lp.row j).cells (v0 j)):=by
  rw[fg];refine⟨bp.put jY (by omega) cYG (by simp) _,?_,dX,?_,?_,bR _⟩
  ·rw[cq (by omega)];exact(K.trans hD ji).some g2 RI
  ·refine((cy.ext (bt.ext g3)).congr λj aH=>?_).put (.inl (by omega)) _;obtain⟨c,ao,e2⟩:=sn j aH;rw[bD.Cn aH]at ao;cases ao;exact e2.symm
  ·exact(dd.congr λj aH=>(iy j aH).1.symm).put (.inl (by omega)) _
 have sc:=iQ.x;simp[sc,-cZY,-cZZ]
 refine gG (σ:=Nat->Value) lp.rows.length (λ_ _=>[(2,.pointer (some ⟨bG,0,none⟩)),(3,.pointer (some ⟨z+4,0,none⟩)),(14,.slice b9 lp.rows.length lp.rows.length)])
  (λi vb H'=>cZa pm H H' bG (z+4) fL.next bN.next cp.next (.slice cR lp.aj.length lp.aj.length) (.slice b9 lp.rows.length lp.rows.length) lp (λj=>(lp.row j).cells (if j<i then vb j else v0 j))/\
   ∀j,j<i->bQP H' cp.next (vb j) (lp.row j).cM.length 2 (cZo (lp.row j).cM))
  (λ_=>.bool true) (by decide) (by omega) (by simp) ⟨by simpa using iQ,λj aH=>absurd aH (od _)⟩ (by simp) ?_ ?_
 ·rintro i vb qJ ad ⟨qK,Qf⟩;refine cXJ al g o qK ad (r:=lp.row i) (vc:=v0 i) (m0:=bQN) (by simp) (iy i ad).2 (Fh i ad) ?_;intro l' sM rJ Qg rK dp aK;refine⟨λj=>if j=i then rJ else vb j,Qg,?_,λj aH=>?_⟩
  ·have e:(λj=>if j=i then(lp.row i).cells rJ else(lp.row j).cells (if j<i then vb j else v0 j))=(λj=>(lp.row j).cells (if j<i+1 then(if j=i then rJ else vb j) else v0 j)):=by
    funext j;by_cases e:j=i
    ·subst e;simp
    ·by_cases e2:j<i
     ·simp[e,e2,show j<i+1 by omega]
     ·simp[e,e2,show ¬j<i+1 by omega]
   rw[<-e];exact rK
  ·by_cases e:j=i
   ·subst e;simpa using dp
   ·simp only[e,if_false];exact(Qf j (by omega)).cZB aK λ_ _ _ h=>h
 ·rintro vb sM ⟨rK,zZ⟩;have ayZ:=rK.x;have Zb:=rK.r;have oj:pm.may bG=true:=g.may (by omega);obtain⟨CD,CM⟩:∃A,A=sM.put bG (.cells [.slice cR lp.aj.length lp.aj.length,.slice b9 lp.rows.length lp.rows.length] (.t bQT)):=⟨_,rfl⟩;simp[ayZ,Zb,cX,c5,setCells,oj,<-CM];refine bU _ _ _ ?_;have ay0:CD.get bG=some (.cells [.slice cR lp.aj.length lp.aj.length,.slice b9 lp.rows.length lp.rows.length] (.t bQT)):=by rw[CM];exact dX
  have CE:K pm H CD:=by rw[CM];exact bp.put rK.k (by omega) Zb (by simp) _
  simp[ik,ay0,cX,c5];have aGd:=o.U;have HH:=o.aa;have Oe:=o.aq;refine⟨CE,_,_,bN.next,rfl,by omega,?_,?_⟩
  ·have:=(rK.c.put (c:=bG) (.inl (by omega)) (.cells [.slice cR lp.aj.length lp.aj.length,.slice b9 lp.rows.length lp.rows.length] (.t bQT))).mono (lo':=H.next) (hi':=bN.next) (by omega) (bR _);rw[<-CM]at this;exact this
  ·have cg:=(rK.w.put (c:=bG) (.inl (by omega)) (.cells [.slice cR lp.aj.length lp.aj.length,.slice b9 lp.rows.length lp.rows.length] (.t bQT)));rw[<-CM]at cg;refine cg.e λj aH=>⟨_,vb j,bD.rowAt aH,by simp[aH],?_⟩;have dj:=((zZ j aH).put (b:=bG) (by omega) (.cells [.slice cR lp.aj.length lp.aj.length,.slice b9 lp.rows.length lp.rows.length] (.t bQT)) λ_ _ _ h=>h);rw[<-CM]at dj;exact dj.mono cZW λ_ _ _ h=>h
end Go.Dam.C
namespace Go.Dam.C
section
variable{α:Type}{f:α->Option α}
theorem bZe:∀{k j:Nat} {a b c:α},oT f k a=some b->oT f j a=some c->f b=none->f c=none->b=c
 | 0,0,a,b,c,U,aa,_,_=>by cases U;cases aa;rfl
 | 0,j+1,a,b,c,U,aa,ai,_=>by
   cases U;rw[oT,ai]at aa;cases aa
 | k+1,0,a,b,c,U,aa,_,af=>by
   cases aa;rw[oT,af]at U;cases U
 | k+1,j+1,a,b,c,U,aa,ai,af=>by
   rw[oT]at U aa
   cases e:f a with
   | none=>rw[e]at U;cases U
   | some a'=>
     rw[e]at U aa;exact bZe U aa ai af
theorem bZy:∀{k:Nat} {a b c:α},oT f k a=some b->f b=some c->oT f (k+1) a=some c
 | 0,a,b,c,h,e=>by cases h;rw[oT,e];rfl
 | k+1,a,b,c,h,e=>by
   rw[oT]at h|-
   cases ao:f a with
   | none=>rw[ao]at h;cases h
   | some a'=>
     rw[ao]at h;exact bZy h e
end
def bZj(lp:bD)(T:b8):Prop:=wC lp.aX (hE lp) T/\∃k,oT (rO lp.aX) k lp.fA=some T
def bZa(lp:bD)(T:b8):Prop:=uG lp.aX (hE lp) T/\∃Uf k j,oT (rO lp.aX) k lp.fA=some Uf/\uC lp.aX Uf=none/\oT (pE lp.aX lp.cs) j Uf=some T
abbrev cYH(lp:bD)(a:iz):Prop:=CZ lp (bZj lp) (bZa lp) a
theorem cXR{lp:bD}(h:iA lp)(hm:lp.dP=true):Kh lp (bZj lp) (bZa lp) 2000 where
 t1:=(runs h hm).t1
 Ki:=(runs h hm).Ki
 s1:=⟨(runs h hm).s1,0,rfl⟩
 g1:=λT bK=>(runs h hm).g1 T bK.1
 n1:=λT dY bK e=>⟨(runs h hm).n1 T dY bK.1 e,bK.2.choose+1,bZy bK.2.choose_spec e⟩
 s2:=λT bK e=>⟨(runs h hm).s2 T bK.1 e,T,bK.2.choose,0,bK.2.choose_spec,e,rfl⟩
 g2:=λT bK=>(runs h hm).g2 T bK.1
 bQO:=λT dY bK e=>by
  obtain⟨U,Uf,k,j,aa,aq,a8⟩:=bK;exact⟨(runs h hm).bQO T dY U e,Uf,k,j+1,aa,aq,bZy a8 e⟩
 eH:=λT bK=>(runs h hm).eH T bK.1
theorem cYH.s{lp:bD}{a:iz}(h:cYH lp a):CZ lp (wC lp.aX (hE lp)) (uG lp.aX (hE lp)) a:=by
 cases h with
 | inf T a U aa aq=>exact .inf T a U.1 aa aq
 | Q1 T c U aa aq=>exact .Q1 T c U.1 aa aq
 | opt T U aa=>exact .opt T U.1 aa
theorem bZG{P:cr}{T:b8}(h:uC P T=none):rO P T=none:=by unfold rO;rw[h]
theorem bYb{P:cr}{T:b8}{a:Nat}(h:uC P T=some a)(aa:sP P T a (off P T.v (T.rows a))=none):rO P T=none:=by unfold rO;rw[h];simp only[aa]
theorem bZl{P:cr}{c:Nat->Rat}{T:b8}(h:enters P c T=none):pE P c T=none:=by unfold pE;rw[h]
theorem bZm{P:cr}{c:Nat->Rat}{T:b8}{k:Nat}(h:enters P c T=some k)(aa:(fv P T k (gl P c T k) P.m).gH=none):pE P c T=none:=by unfold pE;rw[h];simp only[aa]
theorem bZa.one{lp:bD}{T dY:b8}(h:bZa lp T)(gJ:bZa lp dY)(e:pE lp.aX lp.cs T=none)(bw:pE lp.aX lp.cs dY=none):T=dY:=by
 obtain⟨_,A,k,j,cx,a2,a3⟩:=h;obtain⟨_,B,k',MX,cR,b9,fK⟩:=gJ;obtain rfl:=bZe cx cR (bZG a2) (bZG b9);exact bZe a3 fK e bw
theorem bZj.no{lp:bD}{T dY:b8}{a:Nat}(h:bZj lp T)(aa:uC lp.aX T=some a)(aq:sP lp.aX T a (off lp.aX T.v (T.rows a))=none)(gJ:bZa lp dY):False:=by
 obtain⟨_,k,cx⟩:=h;obtain⟨_,B,k',MX,cR,b9,fK⟩:=gJ;obtain rfl:=bZe cx cR (bYb aa aq) (bZG b9);rw[aa]at b9;cases b9
theorem cYH.uniq{lp:bD}{a b:iz}(h:cYH lp a)(g:cYH lp b):a=b:=by
 cases h with
 | inf T i U aa aq=>
   cases g with
   | inf dY iq g1 g2 g3=>
     obtain⟨_,k,cx⟩:=U;obtain⟨_,k',cR⟩:=g1;obtain rfl:=bZe cx cR (bYb aa aq) (bYb g2 g3);rw[aa]at g2;cases g2;rfl
   | Q1 dY c g1 g2 g3=>exact(U.no aa aq g1).elim
   | opt dY g1 g2=>exact(U.no aa aq g1).elim
 | Q1 T c U aa aq=>
   cases g with
   | inf dY iq g1 g2 g3=>exact(g1.no g2 g3 U).elim
   | Q1 dY ek g1 g2 g3=>
     obtain rfl:=U.one g1 (bZm aa aq) (bZm g2 g3);rw[aa]at g2;cases g2;rfl
   | opt dY g1 g2=>
     obtain rfl:=U.one g1 (bZm aa aq) (bZl g2);rw[aa]at g2;cases g2
 | opt T U aa=>
   cases g with
   | inf dY iq g1 g2 g3=>exact(g1.no g2 g3 U).elim
   | Q1 dY ek g1 g2 g3=>
     obtain rfl:=U.one g1 (bZl aa) (bZm g2 g3);rw[aa]at g2;cases g2
   | opt dY g1 g2=>
     obtain rfl:=U.one g1 (bZl aa) (bZl g2);rfl
theorem cYH.kQ{lp:bD}(h:iA lp)(hm:lp.dP=true){c:iz}(aG:cYH lp c):C.kQ lp c=true/\c.ok:=aym h hm aG.s
theorem cYH.len{lp:bD}(h:iA lp)(hm:lp.dP=true){c:iz}(aG:cYH lp c)(aa:c.st=2):(jj (gR lp c.d false)).length<1000000:=ayo h hm aG.s aa
end Go.Dam.C
namespace Go.Dam.C
open Go Go.Dam
variable{X:aY}{pm:Perm}{H H' cL H0:ah}{n:Nat}
structure cZu(X:aY):Prop extends cZD X where
 cZe:Has X F.cZe C.cZe
 cZf:Has X F.cZf C.cZf
 cZd:Has X F.cZd C.cZd
abbrev bQQ:Nat:=T.cXN
abbrev cZs:Nat:=T.cXO
abbrev cYa:Value:=.agg #[.int .i64 0,.string ⟨#[]⟩,.slice none 0 0,.slice none 0 0,.slice none 0 0]
def bQZ(H:ah)(p bQN:Nat)(lp:bD):Prop:=∃fQ fm,H.get p=some (.cells [fQ,fm] (.t cZs))/\bQU H bQN (.agg #[fQ,fm]) lp
theorem bQZ.ext{p bQN:Nat}{lp:bD}(h:bQZ H p bQN lp)(e:Ext H H'):bQZ H' p bQN lp:=by
 obtain⟨fQ,fm,U,aa⟩:=h;exact⟨fQ,fm,e _ _ U,aa.ext e⟩
theorem bQZ.mono{p bQN n1:Nat}{lp:bD}(h:bQZ H p bQN lp)(e:n1<=bQN):bQZ H p n1 lp:=by
 obtain⟨fQ,fm,U,aa⟩:=h;exact⟨fQ,fm,U,aa.mono e⟩
theorem bQZ.put{p c bQN:Nat}{lp:bD}(h:bQZ H p bQN lp)(af:c<bQN)(aC:c≠p)(x:cj):bQZ (H.put c x) p bQN lp:=by
 obtain⟨fQ,fm,U,aa⟩:=h;exact⟨fQ,fm,by rw[cq (Ne.symm aC)];exact U,aa.put (by omega) x⟩
structure bQS(pm:Perm)(p:Nat)(H H':ah):Prop where
 aL:cl pm H'
 next:H.next<=H'.next
 get:∀b,b<H.next->b≠p->H'.get b=H.get b
 eE:∀b o,H.get b=some (.eE o)->H'.get b=some (.eE o)
theorem K.cZt{p:Nat}(k:K pm H H'):bQS pm p H H':=⟨k.aL,k.next,λb ai _=>k.get b ai,k.eE⟩
theorem bQS.trans{p:Nat}(k:bQS pm p H H')(l:bQS pm p H' cL):bQS pm p H cL:=⟨l.aL,bH k.next l.next,λb ai aF=>(l.get b (hR ai k.next) aF).trans (k.get b ai aF),λb o h=>l.eE b o (k.eE b o h)⟩
theorem bQS.put{p:Nat}{cs:List Value}{z:dI}(g:cl pm H)(aK:H.get p=some (.cells cs z))(x:cj):bQS pm p H (H.put p x):=by
 have u:=bp.put (n:=p) (.refl g) (bR _) aK (by simp) x;exact⟨u.aL,u.next,λb _ aF=>cq aF,u.eE⟩
theorem bQS.some{p b:Nat}{y:cj}(k:bQS pm p H H')(g:cl pm H)(aF:b≠p)(h:H.get b=some y):H'.get b=some y:=(k.get b (g.lt h) aF).trans h
theorem bQS.up{p:Nat}(k:bQS pm p H H')(aF:n<=p)(rj:n<=H.next):bp pm n H H':=⟨k.aL,k.next,λb ai=>k.get b (by omega) (by omega),k.eE⟩
theorem bQS.fin{p c:Nat}{cs:List Value}{z:dI}(k:bQS pm p H H')(af:H.next<=c)(aK:H'.get c=Option.some (.cells cs z))(x:cj):bQS pm p H (H'.put c x):=by
 have u:=bp.put (n:=0) (.refl k.aL) (Nat.zero_le _) aK (by simp) x;exact⟨u.aL,bH k.next u.next,λb ai aF=>by rw[cq (by omega)];exact k.get b ai aF,λb o h=>u.eE b o (k.eE b o h)⟩
theorem cXP(al:cZu X)(g:cl pm H){v:Value}{lp:bD}{bQN:Nat}(aw:bQU H bQN v lp)(wu:iA lp)(Fh:∀i,i<lp.rows.length->(lp.row i).cM.length<=1000):
 Call X pm F.cZe [v] H λr H'=>K pm H H'/\(lp.dP=false/\r=.tuple #[.pointer none,cYa,.bool false]∨lp.dP=true/\∃p a u,r=.tuple #[.pointer (some ⟨p,0,none⟩),u,.bool true]/\H.next<=p/\bQZ H' p (p+1) lp/\bZM H' H.next u a/\cYH lp a):=by
 refine Call.h6 al.cZe rfl λQ bU=>?_;have iy:=aw;obtain⟨v1,v2,rfl,U,aa⟩:=aw;obtain⟨bQX,bQY,ao,_⟩:=id U;obtain⟨dG,dE,e2,_⟩:=id aa;subst ao e2;obtain⟨bJ,zq0⟩:∃b,b=H.next:=⟨_,rfl⟩;obtain⟨H1,cw⟩:∃H1,H1=H.new (.cells [.slice bQX lp.aj.length bQY,.slice dG lp.rows.length dE] (.t bQT)):=⟨_,rfl⟩;have av:K pm H H1:=by rw[cw];exact K.new g _
 have g1:=av.aL;have h4:H1.get bJ=some (.cells [.slice bQX lp.aj.length bQY,.slice dG lp.rows.length dE] (.t bQT)):=by rw[cw,zq0];exact dT
 obtain⟨cO,Cu⟩:∃b,b=H1.next:=⟨_,rfl⟩;obtain⟨aJ,ee⟩:∃aJ,aJ=H1.new (.cells [.int .i64 0,.string ⟨#[]⟩,.slice none 0 0,.slice none 0 0,.slice none 0 0] (.t bQQ)):=⟨_,rfl⟩;have aI:K pm H1 aJ:=by rw[ee];exact K.new g1 _
 have g2:=aI.aL;have cXQ:aJ.get cO=some (.cells [.int .i64 0,.string ⟨#[]⟩,.slice none 0 0,.slice none 0 0,.slice none 0 0] (.t bQQ)):=by rw[ee,Cu];exact dT
 have ayQ:=aI.some g1 h4;have h8:=av.trans aI;have n1:H1.next=bJ+1:=by rw[cw,zq0];rfl
 have bQO:aJ.next=cO+1:=by rw[ee,Cu];rfl
 have ata:pm.may cO=true:=g.may (by omega);simp[g.pick,g.make,ptr,<-zq0,<-cw,  <-Cu,<-ee,ayQ,cX,c5,-cYb,-cYc];refine aR.of (vs:=[.agg #[.slice bQX lp.aj.length bQY,.slice dG lp.rows.length dE]]) (by simp) (by simp) (bQf al.tohj g2 wu.ok (iy.lp.ext (h8.ext g)) (λhm=>cXR wu hm)) ?_;rintro dh bN ⟨aQ,aq⟩;have g3:=aQ.aL;have jH:=h8.trans aQ;have cYI:=aQ.some g2 cXQ;have cZF:=aQ.some g2 ayQ;have YI:=aQ.next;obtain⟨aIO,Rf⟩:∃b,b=bN.next:=⟨_,rfl⟩;have cYJ:pm.may aIO=true:=g3.may (by omega);have abi:∀x,(bN.new x).get aIO=some x:=λx=>by rw[Rf];exact dT
 rcases aq with⟨hm,rfl⟩ | ⟨hm,a,u,rfl,hu,aG⟩
 ·obtain⟨cp,nZ⟩:∃A,A=(bN.new (.cells [.int .i64 0,.string ⟨#[]⟩,.slice none 0 0,.slice none 0 0,.slice none 0 0] (.t bQQ))).put aIO (.cells [.int .i64 0,.string ⟨#[]⟩,.slice none 0 0,.slice none 0 0,.slice none 0 0] (.t bQQ)):=⟨_,rfl⟩;have bt:K pm bN cp:=by rw[nZ,Rf];exact mv g3 _ _ (by simp)
  have cZG:=bt.some g3 cYI;obtain⟨cV,r5⟩:∃A,A=cp.put cO (.cells [.int .i64 0,.string ⟨#[]⟩,.slice none 0 0,.slice none 0 0,.slice none 0 0] (.t bQQ)):=⟨_,rfl⟩;have cd:K pm H cV:=by rw[r5];exact bp.put (K.trans jH bt) (by omega) cZG (by simp) _
  have qH:cV.get cO=some (.cells [.int .i64 0,.string ⟨#[]⟩,.slice none 0 0,.slice none 0 0,.slice none 0 0] (.t bQQ)):=by rw[r5];exact dX
  simp[g3.pick,g3.make,ptr,c5,<-Rf,abi,cYJ,setCells,<-nZ,cZG,ata,<-r5,fill,-cYd];refine bU _ _ _ ?_;simp[ik,qH,cX,c5,hm];exact cd
 ·obtain⟨df,dW,gZ,rfl,kR,jw,jP⟩:=hu;obtain⟨PI,PJ,ao,_⟩:=kR.1.ex;obtain⟨PK,PL,e2,_⟩:=jw.1.ex;obtain⟨PM,PN,bd,_⟩:=jP.1.ex;subst ao e2 bd;have hu:bZM bN aJ.next (.agg #[.int .i64 a.st,aW a.val,.slice PI a.x.length PJ,.slice PK a.d.length PL,.slice PM a.r.length PN]) a:=⟨_,_,_,rfl,kR,jw,jP⟩;obtain⟨cp,nZ⟩:∃A,A=(bN.new (.cells [.int .i64 0,.string ⟨#[]⟩,.slice none 0 0,.slice none 0 0,.slice none 0 0] (.t bQQ))).put aIO (.cells [.int .i64 a.st,aW a.val,.slice PI a.x.length PJ,.slice PK a.d.length PL,.slice PM a.r.length PN] (.t bQQ)):=⟨_,rfl⟩;have bt:K pm bN cp:=by rw[nZ,Rf];exact mv g3 _ _ (by simp)
  have g4:=bt.aL;have NC:cp.next=aIO+1:=by rw[nZ,Rf];rfl
  have cXS:cp.get aIO=some (.cells [.int .i64 a.st,aW a.val,.slice PI a.x.length PJ,.slice PK a.d.length PL,.slice PM a.r.length PN] (.t bQQ)):=by rw[nZ];exact dX
  have cZG:=bt.some g3 cYI;have cYe:=bt.some g3 cZF;have jY:=K.trans jH bt;obtain⟨z,bl⟩:∃z,z=cp.next:=⟨_,rfl⟩;have bE:K pm cp (cp.up 8):=(K.refl g4).up 8;have mS:=λj=>(by rw[bl];exact g4.none j:(cp.up 8).get (z+j)=none);have FA:=(by rw[bl];exact g4.fo:(cp.up 8).get z=none);simp[g3.pick,g3.make,ptr,c5,<-Rf,abi,cYJ,setCells,<-nZ];refine eg.of g4.lo rfl ?_;rw[<-bl];simp[dt,mS,FA,cYe,cXS,cX,c5];refine GA bE.aL (vs:=[.agg #[.slice bQX lp.aj.length bQY,.slice dG lp.rows.length dE]]) (by simp[mS]) (by simp) (by simp) rfl (λpm' bS=>cYF al.tocZD bS (iy.ext ((K.trans jY bE).ext g)) (by have:=wu.n;omega) (by have:=wu.m;omega) Fh) ?_;rintro vN cV cd cYf;have g5:=cd.aL;have ki:=K.trans bE cd;have ot:=cd.res g4;rw[<-bl]at ot;have cXT:(cp.up 8).next=z+8:=by rw[bl];rfl
  rw[cXT]at cYf;obtain⟨fQ,fm,yS,rfl,kA,cy,dd⟩:=id cYf;obtain⟨cR,e⟩:=cy.form;subst e;obtain⟨b9,OA,e,_⟩:=id dd;subst e;have cWS:=cd.next;obtain⟨ep,mA⟩:∃A,A=cV.put (z+4) (.cells [.slice cR lp.aj.length lp.aj.length,.slice b9 lp.rows.length OA] (.t cZs)):=⟨_,rfl⟩;have cv:K pm cp ep:=by rw[mA];exact bp.fill ki (by omega) (ot 4 (by decide)) (by omega) _
  have g6:=cv.aL;have cYK:=cv.some g4 cZG;have cXU:ep.get (z+4)=some (.cells [.slice cR lp.aj.length lp.aj.length,.slice b9 lp.rows.length OA] (.t cZs)):=by rw[mA];exact dX
  have cYL:∀j,j<8->j≠4->ep.get (z+j)=none:=λj aH j8=>by rw[mA,cq (by omega)];exact ot j aH
  obtain⟨hM,TM⟩:∃A,A=ep.put cO (.cells [.int .i64 a.st,aW a.val,.slice PI a.x.length PJ,.slice PK a.d.length PL,.slice PM a.r.length PN] (.t bQQ)):=⟨_,rfl⟩;have ck:bJ<z:=by omega
  have eT:cO<z:=by omega
  have lf:aIO<z:=by omega
  have x9:=λo=>jh (lo:=pm.lo) (ok:=pm.ok) (o:=o) (b:=cO) (by have:=g.lo;omega);have cZX:gp [z+4] [aIO]=true:=kS (by omega);simp[ot,fill,setCells,c5,Perm.make,Perm.pick,ptr,<-mA,cYL,cYK,x9,<-TM,cZX,dx,dm,eJ,ez,gI,ck,eT,lf];refine⟨by rw[TM,cq (by omega)];exact cYL 7 (by decide) (by decide),?_⟩;have dJ:K pm H hM:=by rw[TM];exact bp.put (K.trans jY cv) (by omega) cYK (by simp) _
  have cXV:hM.get cO=some (.cells [.int .i64 a.st,aW a.val,.slice PI a.x.length PJ,.slice PK a.d.length PL,.slice PM a.r.length PN] (.t bQQ)):=by rw[TM];exact dX
  refine bU _ _ _ ?_;simp[ik,cXV,cX,c5,hm];refine⟨dJ,z+4,a,_,⟨rfl,rfl⟩,by omega,⟨_,_,by rw[TM,cq (by omega)];exact cXU,?_⟩,?_,aG⟩
  ·have h:=(((cYf.e).put (b:=z+4) (by omega) (.cells [.slice cR lp.aj.length lp.aj.length,.slice b9 lp.rows.length OA] (.t cZs))).put (b:=cO) (by omega) (.cells [.int .i64 a.st,aW a.val,.slice PI a.x.length PJ,.slice PK a.d.length PL,.slice PM a.r.length PN] (.t bQQ))).mono (n1:=z+4+1) (by omega);rw[<-mA,<-TM]at h;exact h
  ·have h:=((hu.ext ((K.trans bt cv).ext g3)).put (c:=cO) (by omega) (.cells [.int .i64 a.st,aW a.val,.slice PI a.x.length PJ,.slice PK a.d.length PL,.slice PM a.r.length PN] (.t bQQ))).mono (n1:=H.next) (by omega);rw[<-TM]at h;exact h
def cZg(pm:Perm)(p bQN:Nat)(H:ah)(lp:bD)(r:Value)(H':ah):Prop:=
 lp.dP=false/\K pm H H'/\r=.tuple #[cYa,.bool false]∨lp.dP=true/\bQS pm p H H'/\bQZ H' p bQN lp/\∃a u,r=.tuple #[u,.bool true]/\bZM H' H.next u a/\cYH lp a
theorem cXW(al:cZu X)(g:cl pm H){p bQN n1:Nat}{ayV lp:bD}{v:Value}(aC:pm.may p=true)(B3:p<bQN)(aG:bQZ H p n1 ayV)(aw:bQU H bQN v lp)(wu:iA lp):
 Call X pm F.cZf [.pointer (some ⟨p,0,none⟩),v] H (cZg pm p bQN H lp):=by
 refine Call.h6 al.cZf rfl λQ bU=>?_;have iy:=aw;obtain⟨v1,v2,rfl,U,aa⟩:=aw;obtain⟨bQX,bQY,ao,_⟩:=id U;obtain⟨dG,dE,e2,_⟩:=id aa;subst ao e2;obtain⟨s1,s2,aaI,tP⟩:=aG;have cYM:=g.lt aaI;obtain⟨bJ,zq0⟩:∃b,b=H.next:=⟨_,rfl⟩;obtain⟨H1,cw⟩:∃H1,H1=H.new (.cells [.slice bQX lp.aj.length bQY,.slice dG lp.rows.length dE] (.t bQT)):=⟨_,rfl⟩;have av:K pm H H1:=by rw[cw];exact K.new g _
 have g1:=av.aL;have h4:H1.get bJ=some (.cells [.slice bQX lp.aj.length bQY,.slice dG lp.rows.length dE] (.t bQT)):=by rw[cw,zq0];exact dT
 obtain⟨aIN,aFl⟩:∃b,b=H1.next:=⟨_,rfl⟩;obtain⟨aJ,ee⟩:∃aJ,aJ=H1.new (.cells [.int .i64 0,.string ⟨#[]⟩,.slice none 0 0,.slice none 0 0,.slice none 0 0] (.t bQQ)):=⟨_,rfl⟩;have aI:K pm H1 aJ:=by rw[ee];exact K.new g1 _
 have g2:=aI.aL;have cXX:aJ.get aIN=some (.cells [.int .i64 0,.string ⟨#[]⟩,.slice none 0 0,.slice none 0 0,.slice none 0 0] (.t bQQ)):=by rw[ee,aFl];exact dT
 have ayQ:=aI.some g1 h4;have h8:=av.trans aI;have n1:H1.next=bJ+1:=by rw[cw,zq0];rfl
 have bQO:aJ.next=aIN+1:=by rw[ee,aFl];rfl
 have aDI:pm.may aIN=true:=g.may (by omega);simp[g.pick,g.make,ptr,<-zq0,<-cw,  <-aFl,<-ee,ayQ,cX,c5,-cZH,-cYg];refine aR.of (vs:=[.agg #[.slice bQX lp.aj.length bQY,.slice dG lp.rows.length dE]]) (by simp) (by simp) (Fi al.tohC g2 (iy.lp.ext (h8.ext g)) wu.ok) ?_;rintro _ bN ⟨aQ,rfl⟩;have g3:=aQ.aL;have jH:=h8.trans aQ;have cYh:=aQ.some g2 cXX;have cZF:=aQ.some g2 ayQ;have YI:=aQ.next;have E1:=jH.some g aaI
 cases hm:lp.dP with
 | false=>
   obtain⟨cp,nZ⟩:∃A,A=bN.put aIN (.cells [.int .i64 0,.string ⟨#[]⟩,.slice none 0 0,.slice none 0 0,.slice none 0 0] (.t bQQ)):=⟨_,rfl⟩;have bt:K pm H cp:=by rw[nZ];exact bp.put jH (by omega) cYh (by simp) _
   have mw:cp.get aIN=some (.cells [.int .i64 0,.string ⟨#[]⟩,.slice none 0 0,.slice none 0 0,.slice none 0 0] (.t bQQ)):=by rw[nZ];exact dX
   simp[fill,c5,setCells,cYh,aDI,<-nZ,-cZH];refine bU _ _ _ ?_;simp[ik,mw,cX,c5,cZg,hm];exact bt
 | true=>
   obtain⟨cp,nZ⟩:∃A,A=bN.put p (.cells [.slice bQX lp.aj.length bQY,.slice dG lp.rows.length dE] (.t cZs)):=⟨_,rfl⟩;have bt:bQS pm p bN cp:=by rw[nZ];exact bQS.put g3 E1 _
   have g4:=bt.aL;have cXY:=bt.some g3 (by omega) cYh;have cYe:=bt.some g3 (by omega) cZF;have cXZ:cp.get p=some (.cells [.slice bQX lp.aj.length bQY,.slice dG lp.rows.length dE] (.t cZs)):=by rw[nZ];exact dX
   have jY:=(K.cZt (p:=p) jH).trans bt;have bUv:bQU cp bQN (.agg #[.slice bQX lp.aj.length bQY,.slice dG lp.rows.length dE]) lp:=by
    rw[nZ];exact(iy.ext (jH.ext g)).put B3 _
   simp[cZF,cX,c5,E1,aC,setCells,<-nZ,cYe,-cYi];refine aR.of (vs:=[.agg #[.slice bQX lp.aj.length bQY,.slice dG lp.rows.length dE]]) (by simp) (by simp) (bQf al.tohj g4 wu.ok bUv.lp (λhm=>cXR wu hm)) ?_;rintro vN cV ⟨cd,cg⟩;have g5:=cd.aL;have cYN:=cd.some g4 cXY
   rcases cg with⟨pZ,_⟩ | ⟨_,a,u,rfl,hu,cYj⟩
   ·rw[hm]at pZ;cases pZ
   ·obtain⟨df,dW,gZ,rfl,kR,jw,jP⟩:=hu;obtain⟨PI,PJ,ao,_⟩:=kR.1.ex;obtain⟨PK,PL,e2,_⟩:=jw.1.ex;obtain⟨PM,PN,bd,_⟩:=jP.1.ex;subst ao e2 bd;have hu:bZM cV cp.next (.agg #[.int .i64 a.st,aW a.val,.slice PI a.x.length PJ,.slice PK a.d.length PL,.slice PM a.r.length PN]) a:=⟨_,_,_,rfl,kR,jw,jP⟩;obtain⟨ep,mA⟩:∃A,A=cV.put aIN (.cells [.int .i64 a.st,aW a.val,.slice PI a.x.length PJ,.slice PK a.d.length PL,.slice PM a.r.length PN] (.t bQQ)):=⟨_,rfl⟩;simp[setCells,cYN,aDI,<-mA];have aay:ep.get aIN=some (.cells [.int .i64 a.st,aW a.val,.slice PI a.x.length PJ,.slice PK a.d.length PL,.slice PM a.r.length PN] (.t bQQ)):=by rw[mA];exact dX
    have sH:=jY.trans (K.cZt (p:=p) cd);have NC:=bt.next;have cv:bQS pm p H ep:=by rw[mA];exact sH.fin (by omega) cYN _
    refine bU _ _ _ ?_;simp[ik,aay,cX,c5,cZg,hm];refine⟨cv,⟨_,_,by rw[mA,cq (by omega)];exact cd.some g4 cXZ,iy.cZS λb y ai h=>cv.some g (by omega) h⟩,a,?_,cYj⟩;rw[mA];exact(hu.put (by omega) _).mono (by omega)
def bD.bQV(lp:bD)(k:Nat)(lo up:List UInt8):bD:={lp with aj:=lp.aj.set k {lp.col k with low:=lo,up:=up}}
theorem cZp{lp:bD}{k:Nat}{lo up:List UInt8}:(lp.bQV k lo up).aj.length=lp.aj.length:=by simp[bD.bQV]
theorem cYk{lp:bD}{k j:Nat}{lo up:List UInt8}(aH:j<lp.aj.length):(lp.bQV k lo up).col j=if j=k then{lp.col k with low:=lo,up:=up} else lp.col j:=by
 unfold bD.bQV bD.col;by_cases e:j=k
 ·subst e;simp[aH]
 ·simp[bXb (Ne.symm e),e]
theorem cWa{lp:bD}{k:Nat}{lo up lo' cYO:List UInt8}(ag:k<lp.aj.length):(lp.bQV k lo up).bQV k lo' cYO=lp.bQV k lo' cYO:=by
 have h:=cYk (lp:=lp) (k:=k) (j:=k) (lo:=lo) (up:=up) ag;rw[bm rfl]at h;unfold bD.bQV at h|-;rw[h];simp
theorem cYP{lp:bD}{k:Nat}(ag:k<lp.aj.length):lp.bQV k (lp.col k).low (lp.col k).up=lp:=by
 unfold bD.bQV;have e:lp.aj[k]? = some (lp.col k):=bD.Cn ag;have:lp.aj.set k (lp.col k)=lp.aj:=by
  apply bZW;intro i;by_cases h:i=k
  ·subst h;rw[bYZ ag,e]
  ·rw[bXb (Ne.symm h)]
 show({lp with aj:=lp.aj.set k (lp.col k)}:bD)=lp;rw[this]
theorem cYQ{lp:bD}{k:Nat}{lo up:List UInt8}(h:iA lp)(ag:k<lp.aj.length)(U:lo.length<=30)(aa:up.length<=30):iA (lp.bQV k lo up):=by
 refine⟨by rw[cZp];exact h.n,h.m,λc af=>?_,h.r⟩;obtain⟨j,aH,rfl⟩:=bXH af;rw[cZp]at aH;have e:=bD.Cn (lp:=lp.bQV k lo up) (i:=j) (by rw[cZp];exact aH);rw[hG (by rw[cZp];exact aH)]at e;rw[bZA e,cYk aH];have vz:=h.c _ (fR (bD.Cn ag));have qG:=h.c _ (fR (bD.Cn aH));split
 ·exact⟨by simpa using(show lo.length<=30 by omega),by simpa using(show up.length<=30 by omega),vz.2.2⟩
 ·exact qG
theorem cYR(al:cZu X)(g:cl pm H){p bQN:Nat}{lp:bD}{col:Int}{lo up:List UInt8}(aC:pm.may p=true)(aG:bQZ H p bQN lp)(wu:iA lp)(Fh:∀i,i<lp.rows.length->(lp.row i).cM.length<=1000)(ey:lo.length<=30)(JV:up.length<=30):
 Call X pm F.cZd [.pointer (some ⟨p,0,none⟩),.int .i64 col,aW lo,aW up] H λr H'=>((col<0∨(lp.aj.length:Int)<=col)/\K pm H H'/\r=.tuple #[cYa,.bool false])∨∃k:Nat,col=k/\k<lp.aj.length/\cZg pm p H.next H (lp.bQV k lo up) r H':=by
 refine Call.h6 al.cZd rfl λQ bU=>?_;obtain⟨s1,s2,aaI,tP⟩:=id aG;obtain⟨_,_,e,cy,dd⟩:=id tP;cases e;obtain⟨cR,cWb,e,_⟩:=id cy;subst e;obtain⟨b9,OA,e,_⟩:=id dd;subst e;have cYM:=g.lt aaI;obtain⟨Cy,Fx⟩:∃b,b=H.next:=⟨_,rfl⟩;obtain⟨H1,cw⟩:∃A,A=H.new (.cells [.int .i64 0,.string ⟨#[]⟩,.slice none 0 0,.slice none 0 0,.slice none 0 0] (.t bQQ)):=⟨_,rfl⟩;have av:K pm H H1:=by rw[cw];exact K.new g _
 have g1:=av.aL;have n1:H1.next=Cy+1:=by rw[cw,Fx];rfl
 have cZI:H1.get Cy=some (.cells [.int .i64 0,.string ⟨#[]⟩,.slice none 0 0,.slice none 0 0,.slice none 0 0] (.t bQQ)):=by rw[cw,Fx];exact dT
 have cYS:=av.some g aaI;have YO:pm.may Cy=true:=g.may (by omega);have zero:K pm H (H1.put Cy (.cells [.int .i64 0,.string ⟨#[]⟩,.slice none 0 0,.slice none 0 0,.slice none 0 0] (.t bQQ))):=bp.put av (by omega) cZI (by simp) _;have cYT:(H1.put Cy (.cells [.int .i64 0,.string ⟨#[]⟩,.slice none 0 0,.slice none 0 0,.slice none 0 0] (.t bQQ))).get Cy=some (.cells [.int .i64 0,.string ⟨#[]⟩,.slice none 0 0,.slice none 0 0,.slice none 0 0] (.t bQQ)):=dX;by_cases aD:col<0
 ·simp[g.pick,g.make,ptr,<-Fx,<-cw,aD,br,fill,c5,setCells,cZI,YO,-cZJ];refine bU _ _ _ ?_;simp[ik,cYT,cX,c5,aD];exact .inl zero
 by_cases U:(lp.aj.length:Int)<=col
 ·simp[g.pick,g.make,ptr,<-Fx,<-cw,aD, br,fill,c5,setCells,cZI,YO,cYS,show ¬col<(lp.aj.length:Int) by omega,-cZJ];refine bU _ _ _ ?_;simp[ik,cYT,cX,c5,U];exact .inl zero
 obtain⟨k,rfl⟩:∃k:Nat,col=k:=⟨col.toNat,by omega⟩;have ag:k<lp.aj.length:=by omega
 simp[g.pick,g.make,ptr,<-Fx,<-cw,ag,br,c5,cX,cYS,-cYl,-cYm];refine aR.of (vs:=[.agg #[.slice cR lp.aj.length cWb,.slice b9 lp.rows.length OA]]) (by simp) (by simp) (cYF al.tocZD g1 (tP.ext (av.ext g)) (by have:=wu.n;omega) (by have:=wu.m;omega) Fh) ?_;rintro _ aJ ⟨aI,fQ,fm,yS,rfl,kA,d1,d2⟩;have g2:=aI.aL;have cWT:=aI.next;obtain⟨dZ,L,ck,cJ,rfl,bC,mV⟩:=d1.pos (by omega);obtain⟨fK,cZv,e,_⟩:=id d2;subst e;obtain⟨cZl,cZK⟩:∃b,b=aJ.next:=⟨_,rfl⟩;have cWc:pm.may cZl=true:=g2.may (by omega);have cWd:∀x,(aJ.new x).get cZl=some x:=λx=>by rw[cZK];exact dT
 obtain⟨bN,iO⟩:∃A,A=(aJ.new (.cells [.slice none 0 0,.slice none 0 0] (.t bQT))).put cZl (.cells [.slice (some ⟨dZ,0,none⟩) lp.aj.length lp.aj.length,.slice fK lp.rows.length cZv] (.t bQT)):=⟨_,rfl⟩;have aQ:K pm aJ bN:=by rw[iO,cZK];exact mv g2 _ _ (by simp)
 have g3:=aQ.aL;have jU:bN.get cZl=some (.cells [.slice (some ⟨dZ,0,none⟩) lp.aj.length lp.aj.length,.slice fK lp.rows.length cZv] (.t bQT)):=by rw[iO];exact dX
 have IK:bN.next=cZl+1:=by rw[iO,cZK];rfl
 have JJ:=aQ.some g2 bC;have cWU:=g2.lt bC;have jH:=K.trans (K.trans av aI) aQ;simp[g2.pick,g2.make,ptr, <-cZK,cWd,cWc,setCells,<-iO,-cYn];refine eg.of g3.lo rfl ?_;obtain⟨z,bl⟩:∃z,z=bN.next:=⟨_,rfl⟩;have bE:K pm bN (bN.up 14):=(K.refl g3).up 14;obtain⟨j9,FD⟩:∃l,l=L.set (k*5+1) (aW lo):=⟨_,rfl⟩;obtain⟨kz,wy⟩:∃l,l=j9.set (k*5+2) (aW up):=⟨_,rfl⟩;obtain⟨fL,fc⟩:∃A,A=(bN.up 14).put dZ (.cells j9 (.n 5)):=⟨_,rfl⟩;obtain⟨fV,fg⟩:∃A,A=fL.put dZ (.cells kz (.n 5)):=⟨_,rfl⟩;have bn:=mV.lt ag (show 1<5 by decide);have bh:=mV.lt ag (show 2<5 by decide);have JG:setCells L (k*5+1) [aW lo]=some j9:=by rw[FD];exact setCells_one bn
 have P2:setCells j9 (k*5+2) [aW up]=some kz:=by rw[wy];exact setCells_one (by rw[FD];simpa using bh)
 have cx:fL.get dZ=some (.cells j9 (.n 5)):=by rw[fc];exact dX
 have a2:fV.get dZ=some (.cells kz (.n 5)):=by rw[fg];exact dX
 have Qj:jk kz 5 lp.aj.length λj=>((lp.bQV k lo up).col j).cells:=by
  have cy:jk j9 5 lp.aj.length λj=>(if j=k then{lp.col k with low:=lo} else lp.col j:eu).cells:=by
   rw[FD];exact mV.set ag (by decide) _ (by simp[eu.cells]) λj _ h=>by simp[h]
  have dd:jk kz 5 lp.aj.length λj=>(if j=k then{lp.col k with low:=lo,up:=up} else lp.col j:eu).cells:=by
   rw[wy];exact cy.set ag (by decide) _ (by simp[eu.cells]) λj _ h=>by simp[h]
  refine⟨dd.1,λj aH=>?_⟩;have:=dd.2 j aH;show((lp.bQV k lo up).col j).cells.length=5/\∀q,q<5->kz[j*5+q]? = ((lp.bQV k lo up).col j).cells[q]?;rw[cYk aH];exact this
 have hD:K pm H fL:=by rw[fc];exact bp.put (K.trans jH bE) (by omega) JJ (by simp) _
 have Y9:K pm H fV:=by rw[fg];exact bp.put hD (by omega) cx (by simp) _
 have cZL:=Y9.aL;have mS:=λj=>(by rw[bl];exact g3.none j:(bN.up 14).get (z+j)=none);have FA:=(by rw[bl];exact g3.fo:(bN.up 14).get z=none);have ayN:∀j,fL.get (z+j)=none:=λj=>by rw[fc,cq (by omega)];exact mS j
 have ayO:∀j,fV.get (z+j)=none:=λj=>by rw[fg,cq (by omega)];exact ayN j
 have x9:=λo=>jh (lo:=pm.lo) (ok:=pm.ok) (o:=o) (b:=dZ) (by have:=g.lo;omega);have ayM:gp [dZ] [cZl]=true:=kS (by omega);have iM:dZ<z:=by omega
 have cWe:cZl<z:=by omega
 have cWf:fV.get cZl=some (.cells [.slice (some ⟨dZ,0,none⟩) lp.aj.length lp.aj.length,.slice fK lp.rows.length cZv] (.t bQT)):=by rw[fg,cq (by omega),fc,cq (by omega)];exact jU
 rw[<-bl];simp[dt,mS,FA,jU,JJ,ag,JG,x9,<-fc,ayN,cx,P2,<-fg, ayM,iM,cWe,dx,dm, ez,cWf,cX,c5,-cYo];have cWg:bQU fV (Cy+1) (.agg #[.slice (some ⟨dZ,0,none⟩) lp.aj.length lp.aj.length,.slice fK lp.rows.length cZv]) (lp.bQV k lo up):=by
  refine⟨_,_,rfl,?_,?_⟩
  ·have h:bQR fV H1.next yS (.slice (some ⟨dZ,0,none⟩) lp.aj.length lp.aj.length) lp.aj.length 5 λj=>((lp.bQV k lo up).col j).cells:=.inr ⟨dZ,kz,ck,cJ,rfl,a2,Qj⟩;have aa:=h.e (P:=cYE (lp.bQV k lo up).aj) λi ad=>⟨_,bD.Cn (by rw[cZp];exact ad),rfl⟩;rw[cZp];exact aa.mono (by omega) λ_ _ _ h=>h
  ·have h:=((d2.ext ((K.trans aQ bE).ext g2)).put (b:=dZ) cJ (.cells j9 (.n 5))).put (b:=dZ) cJ (.cells kz (.n 5));rw[<-fc,<-fg]at h;exact h.mono (by omega)
 refine aR.of (vs:=[.pointer (some ⟨p,0,none⟩),.agg #[.slice (some ⟨dZ,0,none⟩) lp.aj.length lp.aj.length,.slice fK lp.rows.length cZv]]) (by simp) (by simp) (cXW al cZL aC (by omega) (aG.ext (Y9.ext g)) cWg (cYQ wu ag ey JV)) ?_;have cYp:fV.get Cy=some (.cells [.int .i64 0,.string ⟨#[]⟩,.slice none 0 0,.slice none 0 0,.slice none 0 0] (.t bQQ)):=by
  rw[fg,cq (by omega),fc,cq (by omega)];exact(K.trans aI aQ).some g1 cZI
 have TH:=Y9.next;have e3:=cZL.lt cYp;rintro vN cV (⟨hm,cd,rfl⟩ | ⟨hm,cd,cYq,a,u,rfl,hu,cYj⟩)
 ·have cZw:=cd.some cZL cYp;have cv:K pm H (cV.put Cy (.cells [.int .i64 0,.string ⟨#[]⟩,.slice none 0 0,.slice none 0 0,.slice none 0 0] (.t bQQ))):=bp.put (K.trans Y9 cd) (by omega) cZw (by simp) _;simp[setCells,cZw,YO];refine bU _ _ _ ?_;simp[ik,dX,cX,c5];exact .inr ⟨k,rfl,ag,.inl ⟨hm,cv,rfl⟩⟩
 ·obtain⟨df,dW,gZ,rfl,kR,jw,jP⟩:=id hu;obtain⟨PI,PJ,ao,_⟩:=kR.1.ex;obtain⟨PK,PL,e2,_⟩:=jw.1.ex;obtain⟨PM,PN,bd,_⟩:=jP.1.ex;subst ao e2 bd;have cZw:=cd.some cZL (by omega) cYp;obtain⟨ep,mA⟩:∃A,A=cV.put Cy (.cells [.int .i64 a.st,aW a.val,.slice PI a.x.length PJ,.slice PK a.d.length PL,.slice PM a.r.length PN] (.t bQQ)):=⟨_,rfl⟩;have cv:bQS pm p H ep:=by rw[mA];exact((K.cZt Y9).trans cd).fin (by omega) cZw _
  have cWh:ep.get Cy=some (.cells [.int .i64 a.st,aW a.val,.slice PI a.x.length PJ,.slice PK a.d.length PL,.slice PM a.r.length PN] (.t bQQ)):=by rw[mA];exact dX
  simp[setCells,cZw,YO,<-mA];refine bU _ _ _ ?_;simp[ik,cWh,cX,c5];refine⟨k,rfl,ag,.inr ⟨hm,cv,?_,a,_,rfl,?_,cYj⟩⟩
  ·rw[mA];exact(cYq.put (by omega) (by omega) _).mono (by omega)
  ·rw[mA];exact(hu.put (by omega) _).mono (by omega)
end Go.Dam.C
namespace Go.Dam.C
open Go Go.Dam
variable{X:aY}{pm pm':Perm}{H H' cL H0:ah}{n:Nat}
structure cYU(X:aY):Prop extends cZu X where
 cZm:Has X F.cZm C.cZm
abbrev cZx:Nat:=T.cWi
abbrev cZb:Nat:=T.cWj
theorem bQS.perm{p:Nat}(k:bQS pm p H H')(U:pm'.num=none)(aa:pm'.lo<=H'.next):bQS pm' p H H':=⟨k.aL.perm U aa,k.next,k.get,k.eE⟩
theorem cZg.perm{p bQN:Nat}{lp:bD}{r:Value}(t:cZg pm p bQN H lp r H')(U:pm'.num=none)(aa:pm'.lo<=H'.next):cZg pm' p bQN H lp r H':=
 t.imp (λ⟨a,b,c⟩=>⟨a,b.perm U aa,c⟩) λ⟨a,b,c⟩=>⟨a,b.perm U aa,c⟩
theorem cZg.cZt{p bQN:Nat}{lp:bD}{r:Value}(t:cZg pm p bQN H lp r H'):bQS pm p H H':=t.elim (λh=>h.2.1.cZt) λh=>h.2.1
theorem cWk{lp:bD}{i:Nat}(ad:i<lp.cut.rows.length):(lp.cut.row i).cM.length<=1000:=by
 obtain⟨r,_,e⟩:=bZx.1 (fR (bD.rowAt ad):lp.cut.row i∈(lp.rows.take 6).map di.cut);rw[<-e];simp only[di.cut,bYm,bYe];omega
theorem cWl{bZd:Nat}(aD:0<bZd)(aF:bZd<=1000000)(a:Int):∃k:Nat,k<bZd/\(a.tmod bZd+bZd).tmod bZd=(k:Int)/\wr .i64 (a.tmod bZd)=a.tmod bZd/\wr .i64 (a.tmod bZd+bZd)=a.tmod bZd+bZd:=by
 have U:-(bZd:Int)<a.tmod bZd:=by have:=Int.lt_tmod_of_pos a (show(0:Int)<bZd by omega);omega
 have a8:a.tmod bZd<bZd:=Int.tmod_lt_of_pos a (by omega);have aa:=Int.tmod_lt_of_pos (a.tmod bZd+bZd) (show(0:Int)<bZd by omega);have aq:0<=(a.tmod bZd+bZd).tmod bZd:=Int.tmod_nonneg _ (by omega);exact⟨((a.tmod bZd+bZd).tmod bZd).toNat,by omega,by omega,dv (by omega) (by omega),dv (by omega) (by omega)⟩
theorem cWm(al:cYU X)(g:cl pm H){v:Value}{lp:bD}{col:Int}(_cWV:-9223372036854775808<=col)(_cWW:col<=9223372036854775807){lo up:List UInt8}(YK:x' H v lp):
 Call X pm F.cZm [v,.int .i64 col,aW lo,aW up] H λr H'=>K pm H H'/\r=.bool true:=by
 refine Call.h6 al.cZm rfl λQ bU=>?_;have aw:=YK.lp;obtain⟨v1,v2,rfl,af,an⟩:=aw;obtain⟨base,cap,rfl,_⟩:=af.at;obtain⟨dG,dE,rfl,_⟩:=an.at;obtain⟨jW,jR⟩:∃b,b=H.next:=⟨_,rfl⟩;obtain⟨H1,cw⟩:∃H1,H1=H.new (.cells [.slice base lp.aj.length cap,.slice dG lp.rows.length dE] (.t cZx)):=⟨_,rfl⟩;have av:K pm H H1:=by rw[cw];exact K.new g _
 have g1:=av.aL;have h4:H1.get jW=some (.cells [.slice base lp.aj.length cap,.slice dG lp.rows.length dE] (.t cZx)):=by rw[cw,jR];exact dT
 have n1:H1.next=jW+1:=by rw[cw,jR];rfl
 have bUu:pm.may jW=true:=g.may (by omega);simp[g.pick,g.make,ptr,<-jR,<-cw,-cYr,-cYs];refine aR.of (vs:=[]) (by simp) (by simp) (ax2 al.tobYF g1.fJ) ?_;rintro _ H1 ⟨rfl,rfl⟩;simp[h4,cX,c5,-cYt,-cYu];refine aR.of (vs:=[.agg #[.slice base lp.aj.length cap,.slice dG lp.rows.length dE]]) (by simp) (by simp) (ayP al.tobYF pm _ g1 _ lp (YK.ext (av.ext g))) ?_;rintro cB aJ ⟨aI,f2⟩;have g2:=aI.aL;have eA:=aI.some g1 h4;obtain⟨fQ,fm,rfl,kE,mo,sn,Py⟩:=f2;obtain⟨zN,zO,rfl,_⟩:=kE.at;obtain⟨zP,zQ,rfl,_⟩:=mo.rows.at;obtain⟨bN,iO⟩:∃A,A=aJ.put jW (.cells [.slice zN lp.cut.aj.length zO,.slice zP lp.cut.rows.length zQ] (.t cZx)):=⟨_,rfl⟩;have fu:bp pm H.next aJ bN:=by rw[iO];exact bp.put (.refl g2) (by omega) eA (by simp) _
 have aQ:K pm H bN:=bp.trans (K.trans av aI) fu;have g3:=aQ.aL;have dh:bN.get jW=some (.cells [.slice zN lp.cut.aj.length zO,.slice zP lp.cut.rows.length zQ] (.t cZx)):=by rw[iO];exact dX
 have bVb:sL bN H1.next (.agg #[.slice zN lp.cut.aj.length zO,.slice zP lp.cut.rows.length zQ]) lp.cut:=by
  rw[iO];exact sL.put ⟨_,_,rfl,kE,mo,sn,Py⟩ (by omega) _
 have wu:=lp.ax8;have Fh:∀i,i<lp.cut.rows.length->(lp.cut.row i).cM.length<=1000:=λi ad=>cWk ad;have fin:∀l' H',K pm H H'->a7 8 l'=some (.bool true)->Q .ret l' H':=λl' H' k h1=>bU _ _ _ (by simp[h1];exact k);simp[eA,setCells,bUu,<-iO,dh,cX,c5,-cYv,-cYw];refine aR.of (vs:=[.agg #[.slice zN lp.cut.aj.length zO,.slice zP lp.cut.rows.length zQ]]) (by simp) (by simp) (cXP al.tocZu g3 bVb.e wu Fh) ?_;rintro kf cp ⟨bt,a8⟩;have g4:=bt.aL;have jY:=K.trans aQ bt;have iQ:=bt.some g3 dh;have YI:=aQ.next;have cZW:=bt.next;have ayV:=g3.lt dh;obtain⟨aCy,cZq⟩:∃c,c=cp.next:=⟨_,rfl⟩;have cYx:pm.may aCy=true:=g4.may (by omega);have bVc:∀x,(cp.new x).get aCy=some x:=λx=>by rw[cZq];exact dT
 rcases a8 with⟨hm,rfl⟩ | ⟨hm,p,a,u,rfl,Cu,cYV,hu,aG⟩
 ·obtain⟨cV,r5⟩:∃A,A=(cp.new (.cells [.int .i64 0,.string ⟨#[]⟩,.slice none 0 0,.slice none 0 0,.slice none 0 0] (.t cZb))).put aCy (.cells [.int .i64 0,.string ⟨#[]⟩,.slice none 0 0,.slice none 0 0,.slice none 0 0] (.t cZb)):=⟨_,rfl⟩;have cd:K pm cp cV:=by rw[r5,cZq];exact mv g4 _ _ (by simp)
  simp[g4.pick,g4.make,ptr, <-cZq,bVc,cYx,<-r5,setCells,br];exact fin _ _ (K.trans jY cd) (by simp)
 ·obtain⟨df,dW,gZ,rfl,kR,jw,jP⟩:=id hu;obtain⟨PI,PJ,ao,_⟩:=kR.1.ex;obtain⟨PK,PL,e2,_⟩:=jw.1.ex;obtain⟨PM,PN,bd,_⟩:=jP.1.ex;subst ao e2 bd;obtain⟨cV,r5⟩:∃A,A=(cp.new (.cells [.int .i64 0,.string ⟨#[]⟩,.slice none 0 0,.slice none 0 0,.slice none 0 0] (.t cZb))).put aCy (.cells [.int .i64 a.st,aW a.val,.slice PI a.x.length PJ,.slice PK a.d.length PL,.slice PM a.r.length PN] (.t cZb)):=⟨_,rfl⟩;have cd:K pm cp cV:=by rw[r5,cZq];exact mv g4 _ _ (by simp)
  have g5:=cd.aL;have Fw:=K.trans bt cd;have sH:=K.trans jY cd;have t0:=cd.some g4 iQ;have cWn:cV.get aCy=some (.cells [.int .i64 a.st,aW a.val,.slice PI a.x.length PJ,.slice PK a.d.length PL,.slice PM a.r.length PN] (.t cZb)):=by rw[r5];exact dX
  have cYq:=cYV.ext (cd.ext g4);obtain⟨s1,s2,aaI,_⟩:=id cYV;have cYM:=g4.lt aaI;have aye:cV.next=aCy+1:=by rw[r5,cZq];rfl
  have cYW:pm.may p=true:=g3.may Cu;obtain⟨bZd,tA⟩:∃k,k=lp.cut.aj.length:=⟨_,rfl⟩;have bUa:=wu.n;by_cases bl:bZd=0
  ·have asx:lp.cut.aj.length=0:=by omega
   simp[g4.pick,g4.make,ptr,c5,<-cZq,bVc,cYx,<-r5,setCells,br,t0,asx];exact fin _ _ sH (by simp)
  ·obtain⟨k,ag,ER,cS,bL⟩:=cWl (show 0<bZd by omega) (by omega) col;simp[g4.pick,g4.make,ptr,c5,<-cZq,bVc,cYx,<-r5,setCells,br,t0,<-tA,bl,-cZM];refine eg.of g5.lo rfl ?_;simp[dt,g5.none,g5.fo,t0, bL,ER,bl,dx,dm, show jW<cV.next by omega,<-tA,-cZM];have cZy:K pm cV (cV.up 14):=(K.refl g5).up 14;have cZN:=cZy.aL;have cYX:=cYq.ext (cZy.ext g5);simp[-cYy];refine aR.of (vs:=[aW lo,.int .i64 20]) (by simp) (by simp) (zK al.tobYF (n:=20) (by omega)) ?_;rintro _ _ ⟨rfl,rfl⟩;simp[-cYz];refine aR.of (vs:=[aW up,.int .i64 20]) (by simp) (by simp) (zK al.tobYF (n:=20) (by omega)) ?_;rintro _ _ ⟨rfl,rfl⟩;simp[-cYA];refine aR.of (vs:=[.pointer (some ⟨p,0,none⟩),.int .i64 (k:Int),aW (lo.take 20),aW (up.take 20)]) (by simp) (by simp) (cYR al.tocZu cZN cYW cYX wu Fh (by simp;omega) (by simp;omega)) ?_;intro NS ep dj;obtain⟨cZz,bZk,cYY,cWo,cZO⟩:bQS pm p (cV.up 14) ep/\∃bZk cYY,bQZ ep p cYY bZk/\(bZk=lp.cut∨bZk=lp.cut.bQV k (lo.take 20) (up.take 20)):=by
    rcases dj with⟨h,_⟩ | ⟨k',vz,fP,⟨_,bY,_⟩ | ⟨_,bY,ss,_⟩⟩
    ·omega
    ·exact⟨bY.cZt,lp.cut,_,cYX.ext (bY.ext cZN),.inl rfl⟩
    ·obtain rfl:k'=k:=by omega
     exact⟨bY,_,_,ss,.inr rfl⟩
   have g6:=cZz.aL;have cYB:Ext bN ep:=λb y h=>cZz.some cZN (by have:=g3.lt h;omega) ((Fw.trans cZy).some g3 h);have NS:=cYB _ _ dh;have cWp:=cZz.some cZN (by omega) (cZy.some g5 cWn);have cWX:(cV.up 14).next=aCy+15:=by show cV.next+14=_;omega
   have cWY:=cZz.next;have cWq:=bVb.ext cYB;have cWr:=cWq;obtain⟨_,_,e,cWs,_,_,_⟩:=cWr;cases e;obtain⟨_,_,e,eU⟩:=cWs.at;cases e;obtain⟨Co,cZP,cWZ,cYZ,cs,cWt,cXa,cWu,cWv,c,mY,hW⟩:=eU k (by omega);subst cWt;rw[bD.Cn (by omega)]at mY;cases mY;have cYC:=(Fy cWv).2;rw[hW]at cYC;have ao:cYZ[cZP+k*5+1]? = some (aW (lp.cut.col k).low):=by
    have:=congrArg (λl=>l[1]?) cYC;simp only[pT (show 1<5 by decide),o']at this;exact this.symm
   have e2:cYZ[cZP+k*5+2]? = some (aW (lp.cut.col k).up):=by
    have:=congrArg (λl=>l[2]?) cYC;simp only[pT (show 2<5 by decide),o']at this;exact this.symm
   have cVa:=g6.lt cXa;have cVb:=g6.lt NS;obtain⟨z,qj⟩:∃z,z=ep.next:=⟨_,rfl⟩;have cWw:K pm ep (ep.up 21):=(K.refl g6).up 21;have mS:=λj=>(by rw[qj];exact g6.none j:(ep.up 21).get (z+j)=none);have FA:=(by rw[qj];exact g6.fo:(ep.up 21).get z=none);obtain⟨fL,fc⟩:∃A,A=(ep.up 21).put (z+14) (.cells [.int .i64 0,.string ⟨#[]⟩,.slice none 0 0,.slice none 0 0,.slice none 0 0] (.t cZb)):=⟨_,rfl⟩;have hD:K pm ep fL:=by rw[fc];exact bp.fill cWw (by omega) (mS 14) (by show z+14<ep.next+21;omega) _
   have cZk:=hD.aL;have oP:∀j,j≠14->fL.get (z+j)=none:=λj aH=>by rw[fc,cq (by omega)];exact mS j
   have cWx:fL.get (z+14)=some (.cells [.int .i64 0,.string ⟨#[]⟩,.slice none 0 0,.slice none 0 0,.slice none 0 0] (.t cZb)):=by rw[fc];exact dX
   have TG:fL.next=z+21:=by rw[fc,qj];rfl
   have cWy:=λo=>jh (lo:=pm.lo) (ok:=pm.ok) (o:=o) (b:=p) (by have:=g3.lo;omega);have cWz:=λo=>jh (lo:=pm.lo) (ok:=pm.ok) (o:=o) (b:=z+14) (by have:=g6.lo;omega);have cXb:=wu.c _ (fR (bD.Cn (lp:=lp.cut) (i:=k) (by omega)));have cWA:iA bZk:=by
    rcases cZO with rfl | rfl
    ·exact wu
    ·exact cYQ wu (by omega) (by simp;omega) (by simp;omega)
   have Nn:bZk.rows=lp.cut.rows:=by rcases cZO with rfl | rfl<;>rfl
   have cVc:bZk.aj.length=bZd:=by
    rcases cZO with rfl | rfl
    ·omega
    ·rw[cZp];omega
   have cWB:∀i,i<bZk.rows.length->(bZk.row i).cM.length<=1000:=λi ad=>by
    have e:bZk.row i=lp.cut.row i:=by unfold bD.row;rw[Nn]
    rw[e];exact Fh i (by rw[<-Nn];exact ad)
   have cWC:bZk.bQV k (lp.cut.col k).low (lp.cut.col k).up=lp.cut:=by
    rcases cZO with rfl | rfl
    ·exact cYP (by omega)
    ·rw[cWa (by omega)];exact cYP (by omega)
   have cWD:=cWo.ext (hD.ext g6);simp[-cZA];refine eg.of g6.lo rfl ?_;rw[<-qj];simp[dt,mS,FA,NS,ag,cXa,cWu,ao,e2,<-tA,Perm.make,Perm.pick,ptr,<-fc,-cZA];refine g'.of (vs:=[.pointer (some ⟨p,0,none⟩),.int .i64 (k:Int),aW (lp.cut.col k).low,aW (lp.cut.col k).up]) (by simp[oP]) (by simp) (by simp) rfl (cYR al.tocZu (cZk.perm rfl (bR _)) (by have h:=cYW;simp[Perm.may]at h;rcases h with h | h<;>simp[gI,Perm.may,h]) cWD cWA cWB cXb.1 cXb.2.1) ?_;intro PC hM j4;have cWE:∃a' k5,lp.cut.dP=true/\bQS pm p fL hM/\PC=.tuple #[k5,.bool true]/\bZM hM fL.next k5 a'/\cYH lp.cut a':=by
    rcases j4 with⟨h,_⟩ | ⟨k',vz,fP,t⟩
    ·omega
    ·obtain rfl:k'=k:=by omega
     rw[cWC]at t
     rcases t with⟨h,_⟩ | ⟨h,bY,_,a',k5,e,nd,fk⟩
     ·rw[hm]at h;cases h
     ·exact⟨a',k5,h,bY.perm g.num (by have:=bY.next;have:=hD.next;have:=g6.lo;omega),e,nd,fk⟩
   obtain⟨a',k5,_,cZn,rfl,cXc,cWF⟩:=cWE;obtain rfl:=aG.uniq cWF;have g7:=cZn.aL;obtain⟨s6,iL,qV,rfl,rW,wS,pJ⟩:=id cXc;obtain⟨bWC,bWD,auy,_⟩:=rW.1.ex;obtain⟨bWE,bWF,gW,_⟩:=wS.1.ex;obtain⟨bWG,bWH,cWG,_⟩:=pJ.1.ex;subst auy gW cWG;have aHB:=cZn.next;have cXd:=cZn.some cZk (by omega) cWx;have cXe:∀j,j<21->j≠14->hM.get (z+j)=none:=λj aH j8=>(cZn.get _ (by omega) (by omega)).trans (oP j j8);have cWH:=cZn.some cZk (by omega) (hD.some g6 cWp);have PC:=cZn.some cZk (by omega) (hD.some g6 NS);obtain⟨fV,fg⟩:∃A,A=hM.put (z+14) (.cells [.int .i64 a.st,aW a.val,.slice bWC a.x.length bWD,.slice bWE a.d.length bWF,.slice bWG a.r.length bWH] (.t cZb)):=⟨_,rfl⟩;have d1:gp [z+14] [jW]=true:=kS (by omega);have d2:gp [z+14] [Co]=true:=kS (by omega);have d3:gp [z+14] [p]=true:=kS (by omega);have u8:bp pm H.next hM fV:=by rw[fg];exact bp.put (.refl g7) (by omega) cXd (by simp) _
   have g8:=u8.aL;have bUK:fV.get (z+14)=some (.cells [.int .i64 a.st,aW a.val,.slice bWC a.x.length bWD,.slice bWE a.d.length bWF,.slice bWG a.r.length bWH] (.t cZb)):=by rw[fg];exact dX
   have cWI:fV.get aCy=some (.cells [.int .i64 a.st,aW a.val,.slice PI a.x.length PJ,.slice PK a.d.length PL,.slice PM a.r.length PN] (.t cZb)):=by rw[fg,cq (by omega)];exact cWH
   have abn:fV.get jW=some (.cells [.slice (some ⟨Co,cZP,none⟩) bZd zO,.slice zP lp.cut.rows.length zQ] (.t cZx)):=by rw[fg,cq (by omega),tA];exact PC
   simp[cXe,cXd,setCells,c5,cWz,<-fg,dx,dm, ez,gI,cWy,d1,d2,d3,show jW<z by omega,show Co<z by omega,-cZA];have cWJ:Ext bN fV:=λb y h=>by
    have dj:=cYB b y h;have h1:=g6.lt dj;have eT:=g3.lt h;rw[fg,cq (by omega)];exact cZn.some cZk (by omega) (hD.some g6 dj)
   have bUw:=bVb.lp.ext cWJ;rw[<-tA]at bUw;have cWK:ur fV (.agg #[.int .i64 a.st,aW a.val,.slice bWC a.x.length bWD,.slice bWE a.d.length bWF,.slice bWG a.r.length bWH]) a:=by
    have h:=cXc.put (c:=z+14) (by omega) (.cells [.int .i64 a.st,aW a.val,.slice bWC a.x.length bWD,.slice bWE a.d.length bWF,.slice bWG a.r.length bWH] (.t cZb));rw[<-fg]at h;exact h.YG
   obtain⟨YQ,ayl⟩:=aG.kQ wu hm;have cWL:=λaa=>aG.len wu hm aa;have bUM:K pm H fV:=by
    have ox:bp pm H.next H (cV.up 14):=K.trans sH cZy;have Io:bp pm H.next H ep:=ox.trans (cZz.up (by omega) (by have:=ox.next;omega));have auf:bp pm H.next H fL:=Io.k hD Io.next;exact(auf.trans (cZn.up (by omega) (by have:=auf.next;omega))).trans u8
   simp[bUK,cWI,abn,cX, -cYD];refine⟨by rw[fg,cq (by omega)];exact cXe 20 (by omega) (by omega),?_⟩;refine aR.of (vs:=[.agg #[.slice (some ⟨Co,cZP,none⟩) bZd zO,.slice zP lp.cut.rows.length zQ],.agg #[.int .i64 a.st,aW a.val,.slice bWC a.x.length bWD,.slice bWE a.d.length bWF,.slice bWG a.r.length bWH]]) (by simp) (by simp) (PH al.tohj g8 wu.ok bUw cWK ayl cWL) ?_;rintro _ bQx ⟨bUN,rfl⟩;simp[YQ];exact fin _ _ (K.trans bUM bUN) (by simp)
end Go.Dam.C
namespace Go.Dam.C
open Go Go.Dam Go.RowKit
def jn.post:jn->Value->ah->Prop
 | .eW q,v,H=>jC H v q
 | .val u,v,_=>v=u/\plainCell u=true
 | .no,v,_=>v=.tuple #[.pointer none,.bool false]
 | .yes q,v,H=>∃p,v=.tuple #[p,.bool true]/\jC H p q
theorem aB6{γ:bo}{v v':Value}(h:bg γ v v')(aC:plainCell v=true):v'=v:=by
 cases h<;>first | rfl | (simp[plainCell]at aC)
theorem abr{H:ah}(h:qI H=true):H.get 1=some (.eE (.nat 0)):=by
 unfold qI at h;split at h
 ·assumption
 ·cases h
theorem RQ{base:Nat}{γ:bo}{H:ah}{w:World}(an:Rel iG base γ H w){a a':Value}{p:Rat}(h:qD H a=some p)(aw:bg γ a a'):yD w (iJ γ H w) a' p:=by
 unfold qD at h;split at h
 ·cases aw;simp only[a6]at h;exact .inl ⟨rfl,h.symm⟩
 ·rename_i b;split at h
  ·rename_i q aK;obtain⟨L,bC,_,rfl⟩:=aw.pj;obtain⟨x,U,aa⟩:=an.bI b L bC;rw[aK]at U;cases U;obtain⟨gd,aB,aV⟩:=aa;simp only[a6]at h;subst h;simp only[aB];exact aV
  ·cases h
 ·cases h
theorem Step.eE{O:da}{base:Nat}{pm:Perm}{γ:bo}{H:ah}{w w':World}(an:Rel O base γ H w)(ai:Below w.heap.size w w'){o:Hr}{c:Nat}(af:w.heap.size<=c)(hW:c<w'.heap.size)
 (kZ:O.rel w' (λb=>b<w'.heap.size/\(iJ γ H w b∨w.heap.size<=b)) c o):Step O base pm γ H w (γ.set H.next ⟨c,0,0,0⟩) (H.new (.eE o)) w':=by
 have hle:=an.Wk ⟨c,0,0,0⟩;have ag:∀c,c<w.heap.size->w'.heap[c]? = w.heap[c]?:=ai.block;have bO:∀b L,γ b=some L->hr (H.get b)->L.bI<w.heap.size:=λb L h r=>by
  obtain⟨x,U,aa⟩:=an.bI b L h;rw[U]at r;exact aa.lt r
 have aK:∀b,(H.new (.eE o)).get b=if b=H.next then some (.eE o) else H.get b:=λb=>ah.qa H b _
 have lQ:∀b L,γ.set H.next ⟨c,0,0,0⟩ b=some L->hr ((H.new (.eE o)).get b)->γ b=some L/\hr (H.get b):=λb L h r=>by
  rw[aK]at r;by_cases e:b=H.next
  ·rw[bm e]at r;exact r.elim
  ·rw[bo.j' _ _ e]at h;rw[aU e]at r;exact⟨h,r⟩
 have e8:∀b,(b<w'.heap.size/\(iJ γ H w b∨w.heap.size<=b))->iJ (γ.set H.next ⟨c,0,0,0⟩) (H.new (.eE o)) w' b:=λb ⟨U,aa⟩=>⟨U,λd L h r=>by
  obtain⟨bn,bh⟩:=lQ d L h r
  rcases aa with aa | aa
  ·exact aa.2 d L bn bh
  ·have:=bO d L bn bh;omega⟩
 have aB7:∀b,iJ γ H w b->iJ (γ.set H.next ⟨c,0,0,0⟩) (H.new (.eE o)) w' b/\w'.heap[b]? = w.heap[b]?:=λb h=>⟨e8 b ⟨hR h.1 ai.size,.inl h⟩,ag b h.1⟩;refine⟨⟨λb L h=>?_,λb L h=>?_,λb h=>?_,λb b' L L' h gJ r r' q=>?_,λb L h r=>?_,bH an.size ai.size⟩,hle,λb L U aa=>?_,ai.size,λc af _=>ag c af,bYE _,λb ai _=>?_,λb L h r=>?_,λb L U aa=>?_,ai.os,ai.tape,ai.output⟩
 ·rw[aK];by_cases e:b=H.next
  ·subst e;rw[bo.im]at h;cases h;rw[bm rfl];exact⟨_,rfl,e8 c ⟨hW,.inr af⟩,rfl,O.zg kZ λb ai=>⟨e8 b ai,rfl⟩⟩
  ·rw[bo.j' _ _ e]at h;obtain⟨x,U,aa⟩:=an.bI b L h;rw[aU e];exact⟨x,U,aa.mono hle aB7 λr=>ag _ (aa.lt r)⟩
 ·show b<H.next+1;by_cases e:b=H.next
  ·omega
  ·rw[bo.j' _ _ e]at h;have:=an.lt b L h;omega
 ·have h:H.next+1<=b:=h;rw[aK,aU (by omega)];exact an.new b (by omega)
 ·obtain⟨bn,bh⟩:=lQ b L h r;obtain⟨cu,e9⟩:=lQ b' L' gJ r';exact an.inj b b' L L' bn cu bh e9 q
 ·obtain⟨bn,bh⟩:=lQ b L h r;exact an.low b L bn bh
 ·by_cases e:b=H.next
  ·subst e;rw[bo.im]at U;cases U;exact .inl af
  ·rw[bo.j' _ _ e,aa]at U;cases U
 ·rw[aK,aU (by omega)]
 ·have:=an.lt b L h;rw[aK,aU (by omega)]at r;exact r
 ·by_cases e:b=H.next
  ·exact .inl (by omega)
  ·rw[bo.j' _ _ e,aa]at U;cases U
section
variable{P:Program}{G:Nat->Bool}{X:aY}
theorem aB8(jb:∀g,G g=true->g=1)(db:∀m d,fT nz P G (X.K m d)){N:Nat->Prop}{W:World}{γ:bo}{H:ah}(h:In nz N W γ H){f:FuncId}{args:List Value}{dR:Array Value}{R:Value->ah->Prop}(af:Call X ⟨0,[],none⟩ f args H R)(aN:cm γ args dR.toList):
 tI P f dR W λen w'=>∃r v' bk H',en=.returned v'/\R r H'/\bg bk r v'/\Rel nz 0 bk H' w'/\Below W.heap.size W w'/\(∀b L,bk b=some L->N L.bI∨W.heap.size<=L.bI)/\∀b L,bk b=some L->hr (H'.get b)->W.heap.size<=L.bI:=by
 obtain⟨r,H',⟨M,e7⟩,dD⟩:=af;have bA:hH G γ:=by
  intro g aK;obtain rfl:=jb g aK;obtain⟨L,g1,g2,g3⟩:=h.FE;exact⟨L,g1,g2,g3⟩
 have aB:=db M M ⟨0,[],none⟩ f args H r H' rfl (e7 M M (bR _) (bR _)) 0 γ W dR h.rel bA aN;refine aB.mono λen w' ⟨bk,v',U,aa,aq⟩=>⟨r,v',bk,H',U,dD,aa,aq.rel,⟨aq.os,aq.tape,aq.output,aq.grow,λc af=>aq.bT c af λb L ai r=>(h.ro b r).elim⟩,λb L ai=>?_,λb L ai rw=>?_⟩
 ·cases e:γ b with
  | some hI=>
    have:=aq.ext b hI e;rw[ai]at this;cases this;exact .inl (h.n b L e)
  | none=>
    rcases aq.fresh b L ai e with q | ⟨b0,_,_,q,_⟩
    ·exact .inr q
    ·exact(h.ro b0 q).elim
 ·cases e:γ b with
  | some hI=>exact(h.ro b (aq.mR b hI e rw)).elim
  | none=>
    rcases aq.fresh b L ai e with q | ⟨b0,_,_,q,_⟩
    ·exact q
    ·exact(h.ro b0 q).elim
theorem KY(j7:G 1=true)(jb:∀g,G g=true->g=1)(db:∀m d,fT nz P G (X.K m d)){f:FuncId}{r:List Value->ah->Option jn}
 (h:∀args H x,r args H=some x->∀base γ w dR,Rel iG base γ H w->cm γ args dR->∀γ0 H0,In nz (iJ γ H w) w γ0 H0->∃RR RS cH,In nz (iJ γ H w) w RR RS/\cm RR cH dR/\Call X ⟨0,[],none⟩ f cH RS x.post):gY iG P G f (eM r):=by
 intro pm args H v H' _ aK base γ w dR an bA aN;unfold eM at aK
 cases aS:qI H with
 | false=>rw[aS]at aK;cases aK
 | true=>
   rw[aS]at aK;simp only[cond_true]at aK;split at aK
   ·rename_i x az;simp only[a6]at aK;obtain⟨L,bC,ai,_⟩:=bA 1 j7;obtain⟨y,U,aa⟩:=an.bI 1 L bC;rw[abr aS]at U;cases U;obtain⟨gd,_,_,_,e,cz,hw⟩:=aa;rw[ai]at gd hw;obtain⟨RR,RS,cH,ad,aC,af⟩:=h args H x az base γ w dR.toList an aN _ _ (In.start (λ_ h=>⟨rfl,h,e,cz,hw⟩) hw gd);refine(aB8 jb db ad af aC).mono λen w' ⟨r,v',bk,aJ,U,dD,aa,aq,dC,a8,cg⟩=>?_;have eW:∀{p yk:Value} {q:Rat},jC aJ p q->bg bk p yk->∃c,yk=.pointer (some ⟨c,0,none⟩)/\Step iG base pm γ H w (γ.set H.next ⟨c,0,0,0⟩) (H.new (.eE (.lF q))) w'/\bg (γ.set H.next ⟨c,0,0,0⟩) (.pointer (some ⟨H.next,0,none⟩)) yk:=λ{p yk q} bc aw=>by
     obtain⟨c,L,b,rfl,g1,rfl,g2,g3⟩:=jC.out (N:=λc=>iJ γ H w c∨w.heap.size<=c) aq a8 bc aw;have hW:L.bI<w'.heap.size:=by
      obtain⟨x,av,aI⟩:=aq.bI b L g1;rw[av]at g2;exact aI.lt g2
     exact⟨L.bI,rfl,Step.eE an dC (cg b L g1 g2) hW (g3.mono λc af aO=>⟨⟨aO,af⟩,rfl⟩),RO⟩
    cases x with
    | eW q=>
      cases aK;obtain⟨c,rfl,g1,g2⟩:=eW dD aa;exact⟨_,_,U,g2,g1⟩
    | val u=>
      cases aK;obtain⟨rfl,hu⟩:=dD;obtain rfl:=aB6 aa hu;exact⟨γ,_,U,.plainCell hu,Step.below an dC⟩
    | no=>
      cases aK;cases dD;obtain⟨gg,rfl,c9⟩:=aa.Ik;obtain⟨gg⟩:=gg
      cases c9 with
      | cons cx a2=>
        cases a2 with
        | cons a2 a3=>
          cases a3;cases cx;cases a2;exact⟨γ,_,U,.tuple (.cons .EI (.cons (.bool _) .nil)),Step.below an dC⟩
    | yes q=>
      cases aK;obtain⟨p,rfl,bc⟩:=dD;obtain⟨gg,rfl,c9⟩:=aa.Ik;obtain⟨gg⟩:=gg
      cases c9 with
      | cons cx a2=>
        cases a2 with
        | cons a2 a3=>
          cases a3;obtain⟨c,rfl,g1,g2⟩:=eW bc cx;obtain rfl:=a2.qf;exact⟨_,_,U,.tuple (.cons g2 (.cons (.bool _) .nil)),g1⟩
   ·cases aK
theorem In.ok{O:da}{N:Nat->Prop}{W:World}{γ:bo}{H:ah}(h:In O N W γ H):cU ⟨0,[],none⟩ H:=⟨rfl,Nat.zero_le _,h.rel.new,λ_ _=>trivial⟩
theorem Gv(j7:G 1=true)(jb:∀g,G g=true->g=1)(db:∀m d,fT nz P G (X.K m d)){f:FuncId}{k:Rat->jn}
 (h:∀{H v q},cU ⟨0,[],none⟩ H->Tab H->iv H v q->ca q=true->Call X ⟨0,[],none⟩ f [v] H (k q).post):gY iG P G f (eM (b4 k)):=by
 refine KY j7 jb db λargs H x an base γ w dR tT aN γ0 H0 ad=>?_;unfold b4 at an;split at an
 ·rename_i a;split at an
  ·rename_i p aC
   cases aG:ca p with
   | false=>rw[aG]at an;cases an
   | true=>
     rw[aG]at an;simp only[cond_true,a6]at an;subst an
     cases aN with
     | cons U aa=>
       cases aa;obtain⟨gO,H1,jW,i1,ck,df,v1,f1⟩:=ad.lF (RQ tT aC U);exact⟨gO,H1,[jW],i1,.cons v1 .nil,h i1.ok i1.fJ f1 aG⟩
  ·cases an
 ·cases an
theorem Gw(j7:G 1=true)(jb:∀g,G g=true->g=1)(db:∀m d,fT nz P G (X.K m d)){f:FuncId}{k:Rat->Rat->jn}
 (h:∀{H v u p q},cU ⟨0,[],none⟩ H->iv H v p->iv H u q->ca p=true->ca q=true->Call X ⟨0,[],none⟩ f [v,u] H (k p q).post):gY iG P G f (eM (cB k)):=by
 refine KY j7 jb db λargs H x an base γ w dR tT aN γ0 H0 ad=>?_;unfold cB at an;split at an
 ·rename_i a b;split at an
  ·rename_i p aC;split at an
   ·rename_i q aV
    cases aG:(ca p&&ca q) with
    | false=>rw[aG]at an;cases an
    | true=>
      rw[aG]at an;simp only[cond_true,a6]at an;subst an;rw[cG]at aG
      cases aN with
      | cons U aa=>
        cases aa with
        | cons aa aq=>
          cases aq;obtain⟨gO,H1,jW,i1,ck,df,v1,f1⟩:=ad.lF (RQ tT aC U);obtain⟨dQ,aJ,hB,i2,cJ,dW,v2,f2⟩:=i1.lF (RQ tT aV aa);exact⟨dQ,aJ,[jW,hB],i2,.cons (v1.mono cJ) (.cons v2 .nil),h i2.ok (f1.le dW) f2 aG.1 aG.2⟩
   ·cases an
  ·cases an
 ·cases an
structure abt(P:Program)(G:Nat->Bool):Prop where
 abu:gY iG P G F.kp (eM Gx)
 abv:gY iG P G F.nx (eM Dp)
 abw:gY iG P G F.kG (eM KZ)
 abx:gY iG P G F.nW (eM K0)
 aby:gY iG P G F.ke (eM K1)
 abz:gY iG P G F.oG (eM K2)
 abA:gY iG P G F.k7 (eM K3)
 abB:gY iG P G F.nV (eM K4)
 abC:gY iG P G F.gE (eM K5)
 abD:gY iG P G F.tS (eM RT)
 abE:gY iG P G F.su (eM RU)
 abF:gY iG P G F.mI (eM K6)
theorem aB9(j7:G 1=true)(jb:∀g,G g=true->g=1)(db:∀m d,fT nz P G (X.K m d))(al:kr X):abt P G where
 abu:=KY j7 jb db λargs H x an base γ w dR tT aN γ0 H0 ad=>by
  unfold Gx at an;split at an
  ·rename_i n
   cases af:(decide (-9223372036854775808<=n)&&decide (n<=9223372036854775807)) with
   | false=>rw[af]at an;cases an
   | true=>
     rw[af]at an;simp only[cond_true,a6]at an;subst an;simp only[cG,eh]at af;exact⟨γ0,H0,[.int .i64 n],ad,(by cases aN with | cons U aa=>cases aa;rw[U.gC];exact .cons (.int _ _) .nil),(aCa al ad.ok af.1 af.2).mono λ_ _ h=>h.2⟩
  ·cases an
 abv:=KY j7 jb db λargs H x an base γ w dR tT aN γ0 H0 ad=>by
  unfold Dp at an;split at an
  ·rename_i s
   cases af:Nat.blt s.size 1000000 with
   | false=>rw[af]at an;cases an
   | true=>
     rw[af]at an;simp only[cond_true,a6]at an;subst an;rw[js,eh]at af;refine⟨γ0,H0,[.string s],ad,(by cases aN with | cons U aa=>cases aa;rw[U.jv];exact .cons (.str _) .nil),?_⟩;refine(aCb (l:=s.data.toList) al ad.ok ad.fJ af).mono λr H' h=>?_
     rcases h.2 with⟨e,h⟩ | ⟨q,p,e,h,aC⟩
     ·rw[e];exact h
     ·rw[e];exact⟨p,h,aC⟩
  ·cases an
 abw:=Gw j7 jb db λau U aa s1 s2=>(Xl al.tofa au U aa (ca.sz s1) (ca.sz s2) (by decide)).mono λ_ _ h=>h.2
 abx:=Gw j7 jb db λau U aa s1 s2=>(Xm al.tofa au U aa (ca.sz s1) (ca.sz s2) (by decide)).mono λ_ _ h=>h.2
 aby:=Gw j7 jb db λau U aa s1 s2=>(avW al.tofa au U aa (ca.sz s1) (ca.sz s2) (by decide)).mono λ_ _ h=>h.2
 abz:=Gw j7 jb db λ{H v u p q} au U aa s1 s2=>(avX al.tofa au U aa (ca.sz s1) (ca.sz s2) (by decide)).mono λr H' h=>by
  rcases h.2 with⟨e,h⟩ | ⟨e,x,h,aC⟩
  ·rw[bm e];exact h
  ·rw[aU e];exact⟨x,h,aC⟩
 abA:=Gw j7 jb db λau U aa s1 s2=>(av2 al.tofa au U aa (ca.sz s1) (ca.sz s2) (Dq (ca.sz s1) (ca.sz s2)) (by decide)).mono λ_ _ h=>⟨h.2,rfl⟩
 abB:=Gv j7 jb db λau _ h s=>(Xg al.tofa au h (ca.sz s) (by decide)).mono λ_ _ h=>h.2
 abC:=Gv j7 jb db λau _ h s=>(Xe al.tofa au h (ca.sz s) (by decide)).mono λ_ _ h=>⟨h.2,rfl⟩
 abD:=Gv j7 jb db λau _ h s=>(av5 al.tofa au h (ca.sz s) (by decide)).mono λ_ _ h=>h.2
 abE:=Gv j7 jb db λau _ h s=>(av3 al.tofa au h (ca.sz s) (by decide)).mono λ_ _ h=>⟨h.2,rfl⟩
 abF:=Gv j7 jb db λau aS h s=>(abG al au aS h (ca.sz s) (by decide) (by decide)).mono λ_ _ h=>⟨h.2,rfl⟩
end
section
variable{O:da}{P:Program}{W:World}
def hy(O:da)(W:World)(v':Value)(Q:ah->Value->Prop):Prop:=∀γ H,In O (λ_=>True) W γ H->∃bk H' v,In O (λ_=>True) W bk H'/\γ.le bk/\Ext H H'/\bg bk v v'/\Q H' v
def JO(Q:ah->Value->Prop):Prop:=∀H H' v,Ext H H'->Q H v->Q H' v
theorem hy.plain{v:Value}(h:plainCell v=true):hy O W v λ_ u=>u=v:=λγ H ad=>⟨γ,H,v,ad,.refl _,.refl _,.plainCell h,rfl⟩
theorem hy.imp{v:Value}{Q ha:ah->Value->Prop}(h:hy O W v Q)(g:∀H u,Q H u->ha H u):hy O W v ha:=λγ H ad=>
 let ⟨bk,H',u,a,b,c,d,e⟩:=h γ H ad;⟨bk,H',u,a,b,c,d,g _ _ e⟩
theorem hy.list{V:Nat->Value}{Q:Nat->ah->Value->Prop}(aG:∀i,JO (Q i)):∀k,(∀i,i<k->hy O W (V i) (Q i))->∀γ H,In O (λ_=>True) W γ H->
 ∃bk H',∃u:Nat->Value,In O (λ_=>True) W bk H'/\γ.le bk/\Ext H H'/\∀i,i<k->bg bk (u i) (V i)/\Q i H' (u i)
 | 0,_,γ,H,ad=>⟨γ,H,λ_=>.bool true,ad,.refl _,.refl _,λi ad=>absurd ad (od _)⟩
 | k+1,h,γ,H,ad=>by
   obtain⟨gO,H1,u,i1,ck,df,U⟩:=hy.list aG k (λi ad=>h i (by omega)) γ H ad;obtain⟨dQ,aJ,v,i2,cJ,dW,aw,aV⟩:=h k (by omega) gO H1 i1;refine⟨dQ,aJ,λi=>if i=k then v else u i,i2,ck.trans cJ,df.trans dW,λi JP=>?_⟩;by_cases e:i=k
   ·subst e;simp only[if_true];exact⟨aw,aV⟩
   ·simp only[e,if_false];obtain⟨p,q⟩:=U i (by omega);exact⟨p.mono cJ,aG i _ _ _ dW q⟩
theorem hy.nil{w:Nat}{Q:ah->Nat->List Value->Prop}:hy O W (.slice none 0 0) λH u=>hO H u 0 w (Q H):=λγ H ad=>
 ⟨γ,H,_,ad,.refl _,.refl _,.xH,none,0,rfl,bR _,λ_=>rfl,λa h=>by cases h⟩
theorem hy.slice{a:Addr}{len cap w:Nat}{V:Nat->Value}{Q:Nat->ah->Value->Prop}(aG:∀i,JO (Q i))(aO:len<=cap)(hw:0<w)(eI:∀j,j<cap*w->W.cell? (a.add j)=some (V j))(h:∀j,j<len*w->hy O W (V j) (Q j)):
 hy O W (.slice (some a) len cap) λH v=>hO H v len w λi cs=>∃u:Nat->Value,cs=(List.range w).map (λk=>u (i*w+k))/\∀k,k<w->Q (i*w+k) H (u (i*w+k)):=by
 intro γ H ad;obtain⟨gO,H1,u,i1,ck,df,U⟩:=hy.list aG (len*w) h γ H ad;have hlen:((List.range (len*w)).map u).length=len*w:=by simp
 have an:cm gO ((List.range (len*w)).map u) ((List.range (len*w)).map V):=cm.vD (by simp) λi v v' p q=>by
  rw[bZv]at p q;by_cases z6:i<len*w
  ·rw[bYl z6]at p q;cases p;cases q;exact(U i z6).1
  ·rw[jq (by simpa using z6)]at p;cases p
 obtain⟨j9,g1,g2,_⟩:=i1.FE;obtain⟨b,o,ay2,tT⟩:∃b o,wz W (λ_=>True) b o ((List.range (len*w)).map V)/\bg (gO.set H1.next ⟨b,o,0,0⟩) (.slice (some ⟨H1.next,0,none⟩) len cap) (.slice (some a) len cap):=by
  by_cases af:cap=0
  ·subst af;obtain rfl:len=0:=by omega
   obtain⟨c,e,cz,c9⟩:=i1.Qj;exact⟨1,0,⟨trivial,c,e,cz,c9,by simp,by simp⟩,.p9 (bo.im _ _ _)⟩
  ·have nR:0<cap*w:=bYq (by omega) hw;have aD:=eI 0 nR;obtain⟨b,o,sp⟩:=a;have sk:sp=none:=by simpa [Addr.add]using World.cell?_spot aD
   subst sk;obtain⟨c,elem,cz,c9⟩:∃c elem cz,W.heap[b]? = some (.cells c elem cz):=by
    unfold World.cell? at aD;split at aD
    ·rename_i c e f c9;exact⟨c,e,f,by simpa [Addr.add]using c9⟩
    ·cases aD
   have mW:∀i,i<cap*w->c[o+i]? = some (V i):=by
    intro i ad;have aa:=eI i ad;rw[add_eq]at aa;simpa [World.cell?,c9]using aa
   have Qk:=(ic.1 (mW (cap*w-1) (by omega))).1;have hle:len*w<=cap*w:=hQ _ aO;refine⟨b,o,⟨trivial,c,elem,cz,c9,by simp;omega,λi v e=>?_⟩,?_⟩
   ·rw[bZv]at e;by_cases z6:i<len*w
    ·rw[bYl z6]at e;cases e;exact mW i (by omega)
    ·rw[jq (by simpa using z6)]at e;cases e
   ·have:=bg.jN (γ:=gO.set H1.next ⟨b,o,0,0⟩) (b:=H1.next) (off:=0) (n:=len) (cap:=cap) (dN:=cap) (L:=⟨b,o,0,0⟩) (bo.im _ _ _) (bR _) aO (.inl rfl);simpa using this
 obtain⟨i2,cJ,dW⟩:=i1.add ay2 an;refine⟨_,_,_,i2,ck.trans cJ,df.trans dW,tT,_,cap,rfl,aO,(λh=>by cases h),λa h=>?_⟩;cases h;refine⟨H1.next,0,_,rfl,dT,by simp,λi ad=>⟨_,CG ?_,u,?_,λk ag=>aG _ _ _ _ dW (U _ ?_).2⟩⟩
 ·have:i*w+w<=len*w:=by rw[<-bZs];exact hQ _ ad
  simp;omega
 ·apply bZW;intro k;by_cases ag:k<w
  ·have:i*w+w<=len*w:=by rw[<-bZs];exact hQ _ ad
   rw[pT ag,o',bZv,bZv,bYl ag,bYl (by omega),Nat.zero_add];rfl
  ·rw[jq (by simp;omega),jq (by simpa using ag)]
 ·have:i*w+w<=len*w:=by rw[<-bZs];exact hQ _ ad
  omega
theorem JQ{v:Value}:JO λ_ u=>u=v:=λ_ _ _ _ h=>h
theorem hO.zg{m w:Nat}{P:Nat->List Value->Prop}:JO λH v=>hO H v m w P:=λ_ _ _ e h=>hO.imp h e λ_ _ _ h=>h
def iB:Value->List UInt8
 | .string s=>s.data.toList
 | _=>[]
def z7:Value->Int
 | .int _ n=>n
 | _=>0
def JR:Value->Bool
 | .bool b=>b
 | _=>false
def oR(v:Value):Prop:=∃s,v=.string s
def yh(v:Value):Prop:=∃n,v=.int .i64 n
def CN(v:Value):Prop:=∃b,v=.bool b
theorem oR.st{v:Value}(h:oR v):v=aW (iB v):=by obtain⟨s,rfl⟩:=h;rfl
theorem yh.int{v:Value}(h:yh v):v=.int .i64 (z7 v):=by obtain⟨s,rfl⟩:=h;rfl
theorem CN.bool{v:Value}(h:CN v):v=.bool (JR v):=by obtain⟨s,rfl⟩:=h;rfl
theorem oR.lift{v:Value}(h:oR v):hy O W v λ_ u=>u=v:=by obtain⟨s,rfl⟩:=h;exact .plain rfl
theorem yh.lift{v:Value}(h:yh v):hy O W v λ_ u=>u=v:=by obtain⟨s,rfl⟩:=h;exact .plain rfl
theorem CN.lift{v:Value}(h:CN v):hy O W v λ_ u=>u=v:=by obtain⟨s,rfl⟩:=h;exact .plain rfl
def FF(W:World)(w:Nat)(v:Value)(E:(Nat->Value)->Prop):Prop:=v=.slice none 0 0∨∃a len cap,∃V:Nat->Value,v=.slice (some a) len cap/\len<=cap/\(∀j,j<cap*w->W.cell? (a.add j)=some (V j))/\∀i,i<cap->E λk=>V (i*w+k)
def B7(W:World)(v:Value):Prop:=FF W 1 v λV=>oR (V 0)
def I3(W:World)(v:Value):Prop:=FF W 2 v λV=>yh (V 0)/\oR (V 1)
def I4(W:World)(v:Value):Prop:=FF W 5 v λV=>oR (V 0)/\oR (V 1)/\oR (V 2)/\oR (V 3)/\CN (V 4)
def RowsIn(W:World)(v:Value):Prop:=FF W 5 v λV=>oR (V 0)/\yh (V 1)/\I3 W (V 2)/\oR (V 3)/\oR (V 4)
theorem B7.lift{v:Value}(h:B7 W v):∃l,hy O W v λH u=>kh H u l:=by
 rcases h with rfl | ⟨a,len,cap,V,rfl,aO,eI,bz⟩
 ·exact⟨[],λγ H ad=>⟨γ,H,_,ad,.refl _,.refl _,.xH,kh.nil⟩⟩
 ·refine⟨(List.range len).map λi=>iB (V i),(hy.slice (w:=1) (Q:=λj _ u=>u=V j) (λ_=>JQ) aO (by decide) eI λj aH=>?_).imp λH u h=>?_⟩
  ·have:=bz j (by omega);simp only[Nat.mul_one,Nat.add_zero]at this;exact this.lift
  ·obtain⟨base,cap,rfl,_,aD,U⟩:=h;refine⟨base,cap,by simp,λi ad=>?_⟩;have ad:i<len:=by simpa using ad
   cases base with
   | none=>have:=aD rfl;omega
   | some a=>
     obtain⟨b,off,row,rfl,aa,aq,a8⟩:=U _ rfl;obtain⟨cs,cg,u,rfl,dj⟩:=a8 i ad;have j4:=dj 0 (by decide);simp only[Nat.mul_one,Nat.add_zero]at j4;have Ei:=(Fy cg).2;have mm:=congrArg (λl=>l[0]?) Ei;simp[j4]at mm;have aG:=bz i (by omega);simp only[Nat.mul_one,Nat.add_zero]at aG;exact⟨b,off,_,row,V i,rfl,aa,rfl,mm.symm,iB (V i),by simp[ad],aG.st⟩
theorem I3.lift{v:Value}(h:I3 W v):∃l:List fb,hy O W v λH u=>hO H u l.length 2 λi cs=>∃c,l[i]? = some c/\cs=c.cells:=by
 rcases h with rfl | ⟨a,len,cap,V,rfl,aO,eI,bz⟩
 ·exact⟨[],hy.nil⟩
 ·refine⟨(List.range len).map λi=>⟨z7 (V (i*2+0)),iB (V (i*2+1))⟩,(hy.slice (w:=2) (Q:=λj _ u=>u=V j) (λ_=>JQ) aO (by decide) eI λj aH=>?_).imp λH u h=>?_⟩
  ·obtain⟨U,aa⟩:=bz (j/2) (by omega);have e:j=j/2*2+0∨j=j/2*2+1:=by omega
   rcases e with e | e<;>rw[e]
   ·exact U.lift
   ·exact aa.lift
  ·simp only[bYm,bYK];refine hO.imp h (λ_ _ e=>e) λi cs ad ⟨u,e,hu⟩=>⟨⟨z7 (V (i*2+0)),iB (V (i*2+1))⟩,by simp[ad],?_⟩;obtain⟨U,aa⟩:=bz i (by omega);have cY:=hu 0 (by decide);have ao:=hu 1 (by decide);rw[e];show[u (i*2+0),u (i*2+1)]=_;rw[cY,ao];show[V (i*2+0),V (i*2+1)]=[.int .i64 (z7 (V (i*2+0))),aW (iB (V (i*2+1)))];rw[<-U.int,<-aa.st]
theorem I4.lift{v:Value}(h:I4 W v):∃l:List eu,hy O W v λH u=>hO H u l.length 5 λi cs=>∃c,l[i]? = some c/\cs=c.cells:=by
 rcases h with rfl | ⟨a,len,cap,V,rfl,aO,eI,bz⟩
 ·exact⟨[],hy.nil⟩
 ·refine⟨(List.range len).map λi=>⟨iB (V (i*5+0)),iB (V (i*5+1)),iB (V (i*5+2)),iB (V (i*5+3)),JR (V (i*5+4))⟩,(hy.slice (w:=5) (Q:=λj _ u=>u=V j) (λ_=>JQ) aO (by decide) eI λj aH=>?_).imp λH u h=>?_⟩
  ·obtain⟨aD,U,aa,aq,a8⟩:=bz (j/5) (by omega);have e:j=j/5*5+0∨j=j/5*5+1∨j=j/5*5+2∨j=j/5*5+3∨j=j/5*5+4:=by omega
   rcases e with e | e | e | e | e<;>rw[e]
   ·exact aD.lift
   ·exact U.lift
   ·exact aa.lift
   ·exact aq.lift
   ·exact a8.lift
  ·simp only[bYm,bYK];refine hO.imp h (λ_ _ e=>e) λi cs ad ⟨u,e,hu⟩=>⟨⟨iB (V (i*5+0)),iB (V (i*5+1)),iB (V (i*5+2)),iB (V (i*5+3)),JR (V (i*5+4))⟩,by simp[ad],?_⟩;obtain⟨aD,U,aa,aq,a8⟩:=bz i (by omega);rw[e];show[u (i*5+0),u (i*5+1),u (i*5+2),u (i*5+3),u (i*5+4)]=[aW (iB (V (i*5+0))),aW (iB (V (i*5+1))),aW (iB (V (i*5+2))),aW (iB (V (i*5+3))),.bool (JR (V (i*5+4)))];rw[hu 0 (by decide),hu 1 (by decide),hu 2 (by decide),hu 3 (by decide),hu 4 (by decide),<-aD.st,<-U.st,<-aa.st,<-aq.st,<-a8.bool]
theorem RowsIn.lift{v:Value}(h:RowsIn W v):∃l:List di,hy O W v λH u=>CF H u l:=by
 rcases h with rfl | ⟨a,len,cap,V,rfl,aO,eI,bz⟩
 ·exact⟨[],λγ H ad=>⟨γ,H,_,ad,.refl _,.refl _,.xH,none,0,rfl,bR _,λ_=>rfl,λa h=>by cases h⟩⟩
 ·have af:∀i,∃l:List fb,i<cap->hy O W (V (i*5+2)) λH u=>hO H u l.length 2 λi cs=>∃c,l[i]? = some c/\cs=c.cells:=λi=>by
   by_cases ad:i<cap
   ·obtain⟨l,h⟩:=(bz i ad).2.2.1.lift (O:=O);exact⟨l,λ_=>h⟩
   ·exact⟨[],λh=>absurd h ad⟩
  obtain⟨co,Fh⟩:∃co:Nat->List fb,∀i,i<cap->hy O W (V (i*5+2)) λH u=>hO H u (co i).length 2 λiq cs=>∃c,(co i)[iq]? = some c/\cs=c.cells:=⟨λi=>(af i).choose,λi=>(af i).choose_spec⟩
  refine⟨(List.range len).map λi=>⟨iB (V (i*5+0)),z7 (V (i*5+1)),co i,iB (V (i*5+3)),iB (V (i*5+4))⟩,
   (hy.slice (w:=5) (Q:=λj H u=>if j%5=2 then hO H u (co (j/5)).length 2 λiq cs=>∃c,(co (j/5))[iq]? = some c/\cs=c.cells else u=V j) (λj=>?_) aO (by decide) eI λj aH=>?_).imp λH u h=>?_⟩
  ·by_cases e:j%5=2
   ·simp only[e,if_true];exact hO.zg
   ·simp only[e,if_false];exact JQ
  ·obtain⟨aD,U,aa,aq,a8⟩:=bz (j/5) (by omega);have e:j=j/5*5+0∨j=j/5*5+1∨j=j/5*5+2∨j=j/5*5+3∨j=j/5*5+4:=by omega
   rcases e with e | e | e | e | e
   ·simp only[show ¬j%5=2 by omega,if_false];rw[e];exact aD.lift
   ·simp only[show ¬j%5=2 by omega,if_false];rw[e];exact U.lift
   ·have:=Fh (j/5) (by omega);rw[<-e]at this;simp only[show j%5=2 by omega,if_true];exact this
   ·simp only[show ¬j%5=2 by omega,if_false];rw[e];exact aq.lift
   ·simp only[show ¬j%5=2 by omega,if_false];rw[e];exact a8.lift
  ·unfold CF;simp only[bYm,bYK];refine hO.imp h (λ_ _ e=>e) λi cs ad ⟨u,e,hu⟩=>⟨⟨iB (V (i*5+0)),z7 (V (i*5+1)),co i,iB (V (i*5+3)),iB (V (i*5+4))⟩,u (i*5+2),by simp[ad],?_,?_⟩
   ·obtain⟨aD,U,aa,aq,a8⟩:=bz i (by omega);have u0:=hu 0 (by decide);have fQ:=hu 1 (by decide);have fu:=hu 3 (by decide);have eX:=hu 4 (by decide);rw[aU (by omega)]at u0 fQ fu eX;rw[e];show[u (i*5+0),u (i*5+1),u (i*5+2),u (i*5+3),u (i*5+4)]=[aW (iB (V (i*5+0))),.int .i64 (z7 (V (i*5+1))),u (i*5+2),aW (iB (V (i*5+3))),aW (iB (V (i*5+4)))];rw[u0,fQ,fu,eX,<-aD.st,<-U.int,<-aq.st,<-a8.st]
   ·have fm:=hu 2 (by decide);rw[bm (by omega),show(i*5+2)/5=i by omega]at fm;exact fm
def I5(W:World)(v:Value):Prop:=∃v1 v2,v=.agg #[v1,v2]/\I4 W v1/\RowsIn W v2
def Fb(W:World)(v:Value):Prop:=∃v0 v1 v2 v3 v4,v=.agg #[v0,v1,v2,v3,v4]/\yh v0/\oR v1/\B7 W v2/\B7 W v3/\B7 W v4
theorem I5.lift{v:Value}(h:I5 W v):∃lp:bD,hy O W v λH u=>x' H u lp:=by
 obtain⟨v1,v2,rfl,U,aa⟩:=h;obtain⟨aj,ck⟩:=U.lift (O:=O);obtain⟨rows,cJ⟩:=aa.lift (O:=O);refine⟨⟨aj,rows⟩,λγ H ad=>?_⟩;obtain⟨gO,H1,fQ,i1,ao,df,b4,bn⟩:=ck γ H ad;obtain⟨dQ,aJ,fm,i2,e2,dW,cB,bh⟩:=cJ gO H1 i1;exact⟨dQ,aJ,.agg #[fQ,fm],i2,ao.trans e2,df.trans dW,.agg (.cons (b4.mono e2) (.cons cB .nil)),fQ,fm,rfl,hO.zg _ _ _ dW bn,bh⟩
theorem Fb.lift{v:Value}(h:Fb W v):∃a:iz,hy O W v λH u=>ur H u a:=by
 obtain⟨v0,v1,v2,v3,v4,rfl,aD,U,aa,aq,a8⟩:=h;obtain⟨x,cJ⟩:=aa.lift (O:=O);obtain⟨d,eT⟩:=aq.lift (O:=O);obtain⟨r,hP⟩:=a8.lift (O:=O);obtain⟨n,rfl⟩:=aD;obtain⟨s,rfl⟩:=U;refine⟨⟨n,s.data.toList,x,d,r⟩,λγ H ad=>?_⟩;obtain⟨dQ,aJ,fm,i2,e2,dW,cB,bh⟩:=cJ γ H ad;obtain⟨NG,bN,fu,i3,bd,gZ,dh,cu⟩:=eT dQ aJ i2;obtain⟨ay3,cp,eX,i4,b1,jz,kf,e9⟩:=hP NG bN i3;exact⟨ay3,cp,.agg #[.int .i64 n,.string s,fm,fu,eX],i4,(e2.trans bd).trans b1,(dW.trans gZ).trans jz,.agg (.cons (.int _ _) (.cons (.str _) (.cons ((cB.mono bd).mono b1) (.cons (dh.mono b1) (.cons kf .nil))))),fm,fu,eX,rfl,bh.ext (gZ.trans jz),cu.ext jz,e9⟩
section
variable{CO:Type}{enc:TypeId×Value->CO}{base:Nat}{held:Bool}
theorem I2{t e fuel w:Nat}{v:Value}{x:DataW CO×List MemPlace}{E:(Nat->Value)->Prop}(aS:P.underlying t=some (.slice e))(af:P.cellsOf e=w)(h:DataW.trod enc P W base (λ_=>true) held fuel t [v]=some x)
 (bz:∀(V:Nat->Value) n y,DataW.trod enc P W base (λ_=>true) held n e ((List.range w).map V)=some y->E V):FF W w v E:=by
 rcases Deep.open_slice aS h with⟨ao,_⟩ | ⟨a,len,cap,m,n,D,Zc,ao,_,aO,_,hm,_,az⟩
 ·exact .inl (by simpa using ao)
 ·have hm:m=cap:=by simpa using hm
  subst hm;rw[af]at az;refine .inr ⟨a,len,m,λj=>(W.cell? (a.add j)).getD (.bool true),by simpa using ao,aO,?_⟩;have mW:∀i,i<m->∃cs,cs.length=w/\(∀k,k<w->W.cell? (a.add (i*w+k))=cs[k]?)/\DataW.trod enc P W base (λ_=>true) held n e cs=some (D i,Zc i):=λi ad=>by
   obtain⟨cs,U,aa⟩:=az i ad;obtain⟨_,aq,a8⟩:=World.cells?_some U;exact⟨cs,aq,λk ag=>by rw[<-a8 k ag,Deep.add_add],aa⟩
  refine⟨λj aH=>?_,λi ad=>?_⟩
  ·have hw:0<w:=tq λe=>by subst e;simp at aH
   obtain⟨cs,U,aa,_⟩:=mW (j/w) (bYj (by rw[gw];exact aH));have aq:=aa (j%w) (bZU _ hw);rw[show j/w*w+j%w=j by rw[gw];exact bYO j w]at aq;rw[hG (by rw[U];exact bZU _ hw)]at aq;show _=some ((W.cell? (a.add j)).getD _);rw[aq];rfl
  ·obtain⟨cs,U,aa,aq⟩:=mW i ad;refine bz _ n (D i,Zc i) ?_;rw[<-aq];congr 1;apply bZW;intro k;by_cases ag:k<w
   ·rw[bZv,bYl ag,<-aa k ag];have:=aa k ag;rw[hG (by omega)]at this;rw[this];simp[this]
   ·rw[jq (by simpa using ag),jq (by omega)]
theorem lY{e fuel:Nat}{fs:Array Field}{cs:List Value}{x:DataW CO×List MemPlace}{i:Nat}{f:Field}{u:Value}(aS:P.underlying e=some (.struct fs))(h:DataW.trod enc P W base (λ_=>true) held fuel e cs=some x)
 (bc:fs[i]? = some f) (af:P.cellsOf f.type=1) (hu:cs[f.offset]? = some u):∃n y,DataW.trod enc P W base (λ_=>true) held n f.type [u]=some y:=by
 obtain⟨xs,n,_,_,_,hlen,az⟩:=DataW.trod_struct aS h;have U:=az i f bc;have ad:=(ic.1 bc).1;have e:(cs.drop f.offset).take 1=[u]:=by
  apply bZW;intro k
  cases k with
  | zero=>simp[hu]
  | succ k=>simp[List.getElem?_take]
 rw[af,e,hG (by omega)]at U;exact⟨n,_,U⟩
theorem tV{t fuel:Nat}{u:Value}{y:DataW CO×List MemPlace}(aS:P.underlying t=some .string)(h:DataW.trod enc P W base (λ_=>true) held fuel t [u]=some y):oR u:=by
 obtain⟨s,e,_⟩:=DataW.trod_string aS h;exact⟨s,by simpa using e⟩
theorem N4{t fuel:Nat}{u:Value}{y:DataW CO×List MemPlace}(aS:P.underlying t=some (.int .i64))(h:DataW.trod enc P W base (λ_=>true) held fuel t [u]=some y):yh u:=by
 obtain⟨s,e,_⟩:=DataW.trod_int aS h;exact⟨s,by simpa using e⟩
theorem aw5{t fuel:Nat}{u:Value}{y:DataW CO×List MemPlace}(aS:P.underlying t=some .bool)(h:DataW.trod enc P W base (λ_=>true) held fuel t [u]=some y):CN u:=by
 obtain⟨s,e,_⟩:=DataW.trod_bool aS h;exact⟨s,by simpa using e⟩
end
end
end Go.Dam.C
