/- What the functions of the program compute, for every input. -/
import Derived.Test.YtekdmgimlfodkaaGreatDoorLawB
namespace Go.Dam.C
open Go Go.Dam
variable{X:aY}{pm:Perm}{H H' cL H0:ah}{n:Nat}
section
variable{P:cr}{ba:Nat}{aA:Nat->Nat}{lc cc:Value}{T:b8}{c:Nat->Rat}
theorem aCQ(q:Rat):-1<=cT q/\cT q<=1:=by
 unfold cT;split
 ·omega
 ·split<;>omega
def GP(P:cr)(c:Nat->Rat)(T:b8):Option Nat->Int
 | none=>0
 | some k=>gl P c T k
theorem aCR(al:hj X)(g0:cl pm H0)(dU:s9 P)(aD:dH P ba H0 aA lc cc T)(bj:fh P T){t:Nat}(aS:t<=100000)(aG:l4 P T t){w:Value}(hw:mx H0 w P.n (red P c T)){td:Nat}(zq:td<=30000000)(aB:∀k,k<P.n->sz (red P c T k) td):
 Call X pm F.w1 [.pointer (some ⟨aA 0,0,none⟩),w] H0 λr H'=>K pm H0 H'/\r=.tuple #[.int .i64 (e5 (enters P c T)),.int .i64 (GP P c T (enters P c T))]:=by
 refine Call.h6 al.w1 rfl λQ bU=>?_;have j2:=dU.n;have mM:=dU.m;have fC:td<=iP:=bH zq (by decide);obtain⟨base,cap,rfl,eU⟩:=hw.ex;obtain⟨p,aC⟩:∃p:Nat->Bool,p=λk=>decide (red P c T k≠0)&&can P T.v (T.aj k) (-cT (red P c T k)):=⟨_,rfl⟩;have aco:enters P c T=fX p T.aj P.n:=by rw[aC];rfl
 simp[-SD,-SE]
 refine gG (σ:=Unit) P.n (λk _=>[(0,.pointer (some ⟨aA 0,0,none⟩)),(1,.slice base P.n cap),(6,.int .i64 (e5 (fX p T.aj k))),(9,.slice base P.n cap)])
  (λk _ H'=>K pm H0 H') () (by decide) (by omega) (by simp[fX,e5]) (K.refl g0) (by simp) ?_ ?_
 ·rintro k _ H1 ag av;have g1:=av.aL;have kA:0<P.n:=by omega
  have jK:0<P.n+P.m:=by omega
  have t1:=aD.k g0 av;have fO:=t1.t;rw[eQ (b:=aA 1) jK,eQ (b:=aA 3) kA]at fO;obtain⟨cR,Dy,s6,Rl,gP,rfl,iL,qV,wM,GQ⟩:=eU k ag;have AL:=av.some g0 iL;have ib:=GQ.up av;obtain⟨cs,cy,dd,dy⟩:=t1.c kA;have xd:=dy k ag;have q1:=bj.c k ag;obtain⟨vs,va,vb,vc,v1,v2,v3⟩:=(t1.v jK).load q1;have k0:=aB k ag;have l1:=g1.lt fO;have jG:=g1.lt v1;have n0:=g1.lt cy;have xe:=g1.lt AL
  have last:∀(aJ:ah),K pm H0 aJ->p k=true->∀L:bQ,a7 0 L=some (.pointer (some ⟨aA 0,0,none⟩))->a7 1 L=some (.slice (some ⟨cR,Dy,none⟩) P.n cap)->a7 6 L=some (.int .i64 (e5 (fX p T.aj k)))->a7 7 L=some (.int .i64 (k:Int))->
   a7 9 L=some (.slice (some ⟨cR,Dy,none⟩) P.n cap)->a7 10 L=some (.int .i64 (P.n:Int))->a7 11 L=some (.int .i64 (k:Int))->∀ha:c',(∀l' H',K pm H0 H'->Sub [(11,.int .i64 (k:Int)),(10,.int .i64 (P.n:Int)),(0,.pointer (some ⟨aA 0,0,none⟩)),(1,.slice (some ⟨cR,Dy,none⟩) P.n cap),(6,.int .i64 (e5 (fX p T.aj (k+1)))),(9,.slice (some ⟨cR,Dy,none⟩) P.n cap)] l'->ha .normal l' H')->
   wp X pm (.code vf) L aJ [] ha:=by
   intro aJ aI lT L c0 ck dO e3 AJ sD r3 ha fin;have g2:=aI.aL;have t2:=aD.k g0 aI;have eb:=t2.t;rw[eQ (b:=aA 3) kA]at eb;obtain⟨ds,d1,d2,d3⟩:=t2.c kA;have AK:=d3 k ag;have GM:=g2.lt eb;have GN:=g2.lt d1;simp;refine eg.of g2.lo rfl ?_;have bE:K pm H0 (aJ.up 19):=aI.trans ((K.refl g2).up 19)
   cases ai:fX p T.aj k with
   | none=>
     rw[ai]at dO;simp[dt,g2.none,g2.fo,dO,e3,e5,dx,dm,zWb];exact fin _ _ bE (by simp[c0,ck,AJ,sD,r3,fX,ai,lT,e5])
   | some b=>
     rw[ai]at dO;have Lj:=GL ai;have o0:b<P.n:=by omega
     have GO:=d3 b o0;by_cases bO:T.aj k<T.aj b
     ·simp[dt,g2.none,g2.fo,c0,dO,e3,eb,d1,AK,GO,ag,o0,e5,dx,dm,GM,GN,bO];exact fin _ _ bE (by simp[c0,ck,AJ,sD,r3,fX,ai,lT,e5,bO])
     ·simp[dt,g2.none,g2.fo,c0,dO,e3,eb,d1,AK,GO,ag,o0,e5,dx,dm,GM,GN,bO];exact fin _ _ bE (by simp[c0,ck,AJ,sD,r3,dO,fX,ai,lT,e5,bO])
  simp[AL,qV,wM,ag,-vf];refine eg.of g1.lo rfl ?_;simp[dt,g1.fo,-vf];have bE:K pm H1 (H1.up 23):=(K.refl g1).up 23;refine bYf bE.aL (vs:=[gP]) (by simp[g1.none]) (λpm' bS=>kM bS (jF al.toOb bS (ib.up bE).of (k0.ca fC))) ?_;rintro _ _-⟨rfl,rfl⟩;by_cases gU:red P c T k=0
  ·have bl:(cT (red P c T k)==0)=true:=by simp[lj,gU]
   simp[bl,zWb,g1.none,-vf];refine g'.not (by simp[g1.none]) (by simp) ?_;simp[zWb,g1.none,-vf];refine g'.not (by simp[g1.none]) (by simp) ?_;simp[zWb,g1.none,dx,dm,ez];exact⟨by rw[GK (by rw[aC];simp[gU])],av.trans bE⟩
  ·have bl:(cT (red P c T k)==0)=false:=by simp[lj,gU]
   have eo:cT (red P c T k)=1∨cT (red P c T k)=-1:=(lq gU).imp (·.2) (·.2);have mg:wr .i64 (-cT (red P c T k))=-cT (red P c T k):=zWc (by omega) (by omega);simp[bl,g1.none,fO,v1,cy,xd,ag,q1,v2,-vf];refine bZx bE.aL (vs:=[gP]) (by simp[g1.none]) (λpm' bS=>kM bS (jF al.toOb bS (ib.up bE).of (k0.ca fC))) ?_;rintro _ _-⟨rfl,rfl⟩;simp[g1.none,mg,-vf];refine Fq bE.aL (vs:=[.agg #[va,vb,vc],.int .i64 (-cT (red P c T k))]) (by simp[g1.none]) (by simp) (by simp[c5]) rfl (λpm' bS=>abZ al bS (v3.k bE) (aG.v _ q1) (bH aS (by decide))) ?_;rintro _ aJ aI rfl;have df:=aI.res g1;have h8:=av.trans (bE.trans aI);have yK:=λm=>rA (ib.up bE) (bE.some g1 fO) m;have yL:=λm=>rA (ib.up bE) (bE.some g1 v1) m;have yM:=λm=>rA (ib.up bE) (bE.some g1 cy) m
   cases hk:can P T.v (T.aj k) (-cT (red P c T k)) with
   | false=>
     simp[df,dx,dm,l1,jG,n0,ez,yK,yL,yM];exact⟨by rw[GK (by rw[aC];simp[hk])],h8⟩
   | true=>
     simp[df,dx,dm,l1,jG,n0,ez,yK,yL,yM,-vf];exact last _ h8 (by rw[aC];simp[gU,hk]) _ (by simp) (by simp) (by simp) (by simp) (by simp) (by simp) (by simp) _ λl' H' k' ku=>by
      simp;exact⟨by simpa using ku,k'⟩
 ·rintro _ H1 av;simp[-SF];rw[<-aco]
  cases he:enters P c T with
  | none=>
    simp[e5];refine bU _ _ _ ?_;simp[he,e5,GP];exact av
  | some b=>
    have o0:b<P.n:=GL (aco▸he);obtain⟨cR,Dy,s6,Rl,gP,rfl,iL,qV,wM,GQ⟩:=eU b o0;have AL:=av.some g0 iL;simp[e5,AL,qV,wM,o0,-SG];refine aR.bZb (vs:=[gP]) (jF al.toOb av.aL (GQ.up av).of ((aB b o0).ca fC)) ?_;rintro _ H1 ⟨rfl,rfl⟩;have mg:wr .i64 (-cT (red P c T b))=-cT (red P c T b):=by
     have:=aCQ (red P c T b);exact zWc (by omega) (by omega)
    simp[mg];refine bU _ _ _ ?_;simp[he,e5,GP,gl];exact av
end
section
variable{P:cr}{ba:Nat}{aA:Nat->Nat}{lc cc:Value}{T:b8}
theorem aCS(m:Perm)(a:Array Value)(k:IntKind)(i:Int):gI m [.agg a,.int k i]=[]:=rfl
theorem acp{t:Nat}(aG:l4 P T t)(bj:fh P T){col:Nat}(af:col<P.n){way:Int}:∀{i:Nat},i<=P.m->∀q,(fv P T col way i).gH=some q->sz q (4*t+2):=by
 have uI:∀x w r,x<P.n+P.m->room P T.v x w=some r->sz r (2*t+1):=λx w r az h=>by
  have aw:=aG.v x az;unfold room at h;split at h
  ·rename_i u hu;cases h;split at hu
   ·exact Dq (aw.up u hu) aw.v
   ·cases hu
  ·split at h
   ·rename_i l aO;cases h;split at aO
    ·exact Dq aw.v (aw.lo l aO)
    ·cases aO
   ·cases h
 intro i
 induction i with
 | zero=>
   intro _ q h;exact ff (uI _ _ _ (bj.c col af) h) (by omega)
 | succ i ih=>
   intro hi q h;rw[fv]at h;have ih:=ih (by omega);split at h
   ·exact ih q h
   ·rename_i dp;split at h
    ·exact ih q h
    ·rename_i r an;have aV:sz (r/e4 (T.M i col)) (4*t+2):=by
      have U:=uI _ _ _ (bj.r i (by omega)) an;have aa:sz (e4 (T.M i col)) (2*t+1):=by
       have:=ff (aG.M i col (by omega) af) (show t<=2*t+1 by omega);unfold e4;split
       ·exact vP this
       ·exact this
      have:=Lg U aa (by have:=oU dp;grind);exact ff this (by omega)
     unfold jI.add at h;split at h
     ·cases h;exact aV
     ·split at h
      ·cases h;exact aV
      ·exact ih q h
theorem aCT{t:Nat}{v:Nat->Rat}{x:Nat}(aw:Lc P v x t){w:Int}{r:Rat}(h:room P v x w=some r):sz r (2*t+1):=by
 unfold room at h;split at h
 ·rename_i u hu;cases h;split at hu
  ·exact Dq (aw.up u hu) aw.v
  ·cases hu
 ·split at h
  ·rename_i l aO;cases h;split at aO
   ·exact Dq aw.v (aw.lo l aO)
   ·cases aO
  ·cases h
theorem aCU(al:hj X)(g0:cl pm H0)(dU:s9 P)(aD:dH P ba H0 aA lc cc T)(bj:fh P T){t:Nat}(aS:t<=100000)(aG:l4 P T t){col:Nat}(af:col<P.n){way:Int}(kn:way=1∨way=-1):
 Call X pm F.w2 [.pointer (some ⟨aA 0,0,none⟩),.int .i64 (col:Int),.int .i64 way] H0 λr H'=>K pm H0 H'/\∃f,r=.tuple #[f,.int .i64 (e5 (fv P T col way P.m).ind)]/\ia H' f (fv P T col way P.m).gH:=by
 refine Call.h6 al.w2 rfl λQ bU=>?_;have j2:=dU.n;have mM:=dU.m;have fC:t<=iP:=bH aS (by decide);have yN:4*t+2<=iP:=bH (show 4*t+2<=500000 by omega) (by decide);have esz:2*t+1<=iP:=bH (show 2*t+1<=500000 by omega) (by decide);have kA:0<P.n:=by omega
 have jK:0<P.n+P.m:=by omega
 have fq:=aD.t;rw[eQ (b:=aA 1) jK,eQ (b:=aA 3) kA]at fq;obtain⟨cs,cy,dd,dy⟩:=aD.c kA;have w8:=dy col af;have Lk:=bj.c col af;obtain⟨vs,va,vb,vc,v1,v2,v3⟩:=(aD.v jK).load Lk;have l1:=g0.lt fq;have jG:=g0.lt v1;have n0:=g0.lt cy;simp[-Ll];refine eg.of g0.lo rfl ?_;have bE:K pm H0 (H0.up 25):=(K.refl g0).up 25;simp[dt,g0.none,g0.fo,fq,cy,w8,af,Lk,v1,v2,-Ll];refine GA bE.aL (vs:=[.agg #[va,vb,vc],.int .i64 way]) (by simp[g0.none]) (by simp) (by simp[c5]) rfl (λpm' bS=>ab0 al bS (v3.k bE) (aG.v _ Lk) (bH aS (by decide))) ?_;rintro f1 H1 av sn;have df:=av.res g0;have qx:=bE.trans av;obtain⟨base,gN,yH⟩:=uA (aA 4) P.m;have fO:=qx.some g0 aD.t;rw[gN]at fO;simp[df,dx,dm,l1,jG,n0,eJ,ez,aCS,fO,-SH]
 refine gG (σ:=Value) P.m (λi f=>[(0,.pointer (some ⟨aA 0,0,none⟩)),(1,.int .i64 (col:Int)),(2,.int .i64 way),(8,f),(9,.int .i64 (e5 (fv P T col way i).ind)),(10,.int .i64 ((fv P T col way i).rP:Int)),(41,.slice base P.m P.m)])
  (λi f H'=>K pm H0 H'/\ia H' f (fv P T col way i).gH) f1 (by decide) (by omega) (by simp[fv,e5]) ⟨qx,by simpa [fv]using sn⟩ (by simp) ?_ ?_
 ·rintro i f aJ hi ⟨aI,bc⟩;obtain rfl:=yH (by omega);have g2:=aI.aL;have ft:0<P.m:=by omega
  have t2:=aD.k g0 aI;obtain⟨ms,m1,m2,m3⟩:=t2.m ft;have AF:=m3 i hi;obtain⟨cH,bJ,bG,cO⟩:=t2.row i hi;obtain⟨o1,u',n9⟩:=cO col af;have k0:=aG.M i col hi af;simp[m1,AF,hi,bJ,u',af,-SI,-SJ];refine aR.bZb (vs:=[o1]) (jF al.toOb g2 n9.of (k0.ca fC)) ?_;rintro _ aJ ⟨rfl,rfl⟩;by_cases dp:T.M i col=0
  ·simp[lj,dp];have e:fv P T col way (i+1)=fv P T col way i:=by rw[fv,bm dp]
   rw[e];exact⟨_,⟨rfl,rfl,rfl⟩,aI,bc⟩
  ·have eb:=t2.t;rw[eQ (b:=aA 1) jK,eQ (b:=aA 2) ft]at eb;obtain⟨rs,b4,cB,dh⟩:=t2.r ft;have yI:=dh i hi;have AE:=bj.r i hi;obtain⟨ws,aCV,GR,bZs,cS,bL,kF⟩:=(t2.v jK).load AE;have hB:=g2.lt eb;have bn:=g2.lt cS;have bh:=g2.lt b4;have eo:=J2 kn dp;have mg:wr .i64 (way*cT (T.M i col))=way*cT (T.M i col):=zWc (by omega) (by omega);simp[lj,dp,-GS];refine eg.of g2.lo rfl ?_;have pB:K pm aJ (aJ.up 19):=(K.refl g2).up 19;simp[dt,g2.none,g2.fo,eb,b4,yI,hi,AE,cS,bL,-GS];refine bZx pB.aL (vs:=[o1]) (by simp[g2.none]) (λpm' bS=>kM bS (jF al.toOb bS (n9.up pB).of (k0.ca fC))) ?_;rintro _ _-⟨rfl,rfl⟩;simp[g2.none,mg,-GS];refine Fq pB.aL (vs:=[.agg #[aCV,GR,bZs],.int .i64 (way*cT (T.M i col))]) (by simp[g2.none]) (by simp) (by simp[c5]) rfl (λpm' bS=>ab0 al bS (kF.k pB) (aG.v _ AE) (bH aS (by decide))) ?_;rintro aCW bN aQ lX;have dW:=aQ.res g2;have my:=pB.trans aQ;have jH:=aI.trans my;have g3:=jH.aL;have yK:=λm=>rA (n9.up pB) (pB.some g2 eb) m;have yL:=λm=>rA (n9.up pB) (pB.some g2 cS) m;have yM:=λm=>rA (n9.up pB) (pB.some g2 b4) m;have SK:=n9.up my;have Au:=bc.up my;obtain⟨aCX,rfl⟩:=Au.ptr
   cases ym:room P T.v (T.rows i) (way*cT (T.M i col)) with
   | none=>
     rw[ym]at lX;obtain rfl:aCW=.pointer none:=lX;simp[dW,dx,dm,hB,bn,bh,ez,yK,yL,yM,-SL];have e:fv P T col way (i+1)=fv P T col way i:=by rw[fv,aU dp,ym]
     rw[e];exact⟨_,⟨rfl,rfl,rfl⟩,jH,Au⟩
   | some r=>
     rw[ym]at lX;obtain⟨rb,rfl,n6⟩:=id lX;have acq:=aCT (aG.v _ AE) ym;have acr:sz (e4 (T.M i col)) (2*t+1):=by
      have:=ff k0 (show t<=2*t+1 by omega);unfold e4;split
      ·exact vP this
      ·exact this
     have uw:e4 (T.M i col)≠0:=by have:=oU dp;grind
     have acs:=ff (Lg acq acr uw) (show 2*(2*t+1)<=4*t+2 by omega);have e:fv P T col way (i+1)=(fv P T col way i).add (r/e4 (T.M i col)) i (T.rows i):=by rw[fv,aU dp,ym]
     have tail:∀(cp:ah) (u:Value),K pm bN cp->c1 cp u (e4 (T.M i col))->∀L:bQ,a7 0 L=some (.pointer (some ⟨aA 0,0,none⟩))->a7 1 L=some (.int .i64 (col:Int))->a7 2 L=some (.int .i64 way)->a7 8 L=some (.pointer aCX)->a7 9 L=some (.int .i64 (e5 (fv P T col way i).ind))->a7 10 L=some (.int .i64 ((fv P T col way i).rP:Int))->a7 11 L=some (.int .i64 (i:Int))->a7 13 L=some u->
      a7 14 L=some (.pointer (some ⟨rb,0,none⟩))->a7 41 L=some (.slice (some ⟨aA 4,0,none⟩) P.m P.m)->a7 42 L=some (.int .i64 (P.m:Int))->a7 43 L=some (.int .i64 (i:Int))->∀ha:c',
      (∀l' H' f',K pm H0 H'->ia H' f' (fv P T col way (i+1)).gH->Sub [(43,.int .i64 (i:Int)),(42,.int .i64 (P.m:Int)),(0,.pointer (some ⟨aA 0,0,none⟩)),(1,.int .i64 (col:Int)),(2,.int .i64 way),(8,f'),(9,.int .i64 (e5 (fv P T col way (i+1)).ind)),(10,.int .i64 ((fv P T col way (i+1)).rP:Int)),(41,.slice (some ⟨aA 4,0,none⟩) P.m P.m)] l'->ha .normal l' H')->wp X pm (.code AM) L cp [] ha:=by
      intro cp u bt hu L c0 ck cJ e3 pN l10 nc zI x5 AN AO AP ha fin;simp[x5,zI,-SM,-SN];refine aR.bZb (vs:=[.pointer (some ⟨rb,0,none⟩),u]) (K8 al.toOb bt.aL (lX.up bt).of hu.of (acq.ca esz) (acr.ca esz) uw) ?_;rintro _ cV ⟨cd,nn,rfl,xf⟩;obtain⟨GU,rfl,_⟩:=id xf;have Fw:=bt.trans cd;have sH:=jH.trans Fw;have g5:=cd.aL;have t5:=aD.k g0 sH;have pO:=t5.t;rw[eQ (b:=aA 2) ft]at pO;obtain⟨ss,s1,s2,de⟩:=t5.r ft;have SO:=de i hi;have tv:=g5.lt pO;have iL:=g5.lt s1;have vg:K pm cV (cV.up 12):=(K.refl g5).up 12;have AQ:=Au.up Fw
      have take:∀L:bQ,a7 0 L=some (.pointer (some ⟨aA 0,0,none⟩))->a7 1 L=some (.int .i64 (col:Int))->a7 2 L=some (.int .i64 way)->a7 11 L=some (.int .i64 (i:Int))->a7 107 L=some (.bool true)->
       a7 14 L=some (.pointer (some ⟨GU,0,none⟩))->a7 41 L=some (.slice (some ⟨aA 4,0,none⟩) P.m P.m)->a7 42 L=some (.int .i64 (P.m:Int))->a7 43 L=some (.int .i64 (i:Int))->fv P T col way (i+1)=⟨some (r/e4 (T.M i col)),some i,T.rows i⟩->wp X pm (.code Dz) L cV [] ha:=by
       intro L c0 ck cJ nc aCY x5 AN AO AP he;simp[aCY];refine eg.of g5.lo rfl ?_;simp[dt,g5.none,g5.fo,c0,nc,x5,pO,s1,SO,hi,dx,dm,tv,iL];exact fin _ _ (.pointer (some ⟨GU,0,none⟩)) (sH.trans vg) (by rw[he];exact xf.up vg) (by simp[c0,ck,cJ,AN,AO,AP,he,e5])
      have av0:r/e4 (T.M i col)=r/e4 (T.M i col):=rfl;generalize r/e4 (T.M i col)=q at xf acs e take
      cases iE:(fv P T col way i).gH with
      | none=>
        rw[iE]at AQ;cases AQ;simp[e3,zWb,-Dz];exact take _ (by simp[c0]) (by simp[ck]) (by simp[cJ]) (by simp[nc]) (by simp) (by simp) (by simp[AN]) (by simp[AO]) (by simp[AP]) (by rw[e,jI.add,iE])
      | some p=>
        rw[iE]at AQ;obtain⟨yC,aCZ,_⟩:=id AQ;cases aCZ;have aC0:=acp aG bj af (bUP hi) p iE;simp[e3,-SP,-SQ];refine aR.of (vs:=[.pointer (some ⟨GU,0,none⟩),.pointer (some ⟨yC,0,none⟩)]) (by simp) (by simp) (ud al.toOb g5 xf.of AQ.of (acs.ca yN) (aC0.ca yN)) ?_;rintro _ cV ⟨rfl,rfl⟩;by_cases cy:q<p
        ·simp[rz,cy,zWb,-Dz];exact take _ (by simp[c0]) (by simp[ck]) (by simp[cJ]) (by simp[nc]) (by simp) (by simp) (by simp[AN]) (by simp[AO]) (by simp[AP]) (by rw[e,jI.add,iE];simp[cy])
        ·by_cases dd:q=p
         ·have Lm:(kL q p==0)=true:=by simp[cmp_eq,dd]
          by_cases Ln:T.rows i<(fv P T col way i).rP
          ·simp[rz,cy,Lm,c0,l10,nc,pO,s1,SO,hi,Ln,-Dz];exact take _ (by simp[c0]) (by simp[ck]) (by simp[cJ]) (by simp[nc]) (by simp) (by simp) (by simp[AN]) (by simp[AO]) (by simp[AP]) (by rw[e,jI.add,iE];simp[dd,Ln])
          ·simp[rz,cy,Lm,c0,l10,nc,pO,s1,SO,hi,Ln];have bw:fv P T col way (i+1)=fv P T col way i:=by rw[e,jI.add,iE];simp[cy,Ln]
           exact fin _ _ (.pointer (some ⟨yC,0,none⟩)) sH (by rw[bw,iE];exact AQ) (by simp[c0,ck,cJ,e3,pN,l10,AN,AO,AP,bw])
         ·have Lm:(kL q p==0)=false:=by simp[cmp_eq,dd]
          simp[rz,cy,Lm,zWb];have bw:fv P T col way (i+1)=fv P T col way i:=by rw[e,jI.add,iE];simp[cy,dd]
          exact fin _ _ (.pointer (some ⟨yC,0,none⟩)) sH (by rw[bw,iE];exact AQ) (by simp[c0,ck,cJ,e3,pN,l10,AN,AO,AP,bw])
     simp[dW,dx,dm,hB,bn,bh,ez,yK,yL,yM,-AM];refine aR.bZb (vs:=[o1]) (jF al.toOb g3 SK.of (k0.ca fC)) ?_;rintro _ bN ⟨rfl,rfl⟩;by_cases mX:T.M i col<0
     ·simp[um,mX,-AM];refine aR.bZb (vs:=[o1]) (K7 al.toOb g3 SK.of (k0.ca fC)) ?_;rintro u cp ⟨bt,hu⟩;simp[-AM];refine tail cp u bt (by rw[e4,bm mX];exact hu) _ (by simp) (by simp) (by simp) (by simp) (by simp) (by simp) (by simp) (by simp) (by simp) (by simp) (by simp) (by simp) _ λl' H' f' k' CK ku=>?_;simp;exact⟨f',by simpa using ku,k',CK⟩
     ·simp[um,mX,-AM];refine tail bN o1 (K.refl g3) (by rw[e4,aU mX];exact SK) _ (by simp) (by simp) (by simp) (by simp) (by simp) (by simp) (by simp) (by simp) (by simp) (by simp) (by simp) (by simp) _ λl' H' f' k' CK ku=>?_;simp;exact⟨f',by simpa using ku,k',CK⟩
 ·rintro f H1 ⟨av,bc⟩;simp;refine bU _ _ _ ?_;simp;exact⟨av,bc⟩
end
structure r4(lp:bD)(P:cr)(c:Nat->Rat):Prop where
 n:P.n=lp.aj.length
 m:P.m=lp.rows.length
 cost:∀j,j<P.n->c j=rd (lp.col j).cost
theorem r4.ok{lp:bD}{P:cr}{c:Nat->Rat}(h:r4 lp P c)(au:lp.ok):s9 P:=⟨by rw[h.n];exact au.c,by rw[h.m];exact au.r⟩
section
variable{P:cr}{ba:Nat}{aA:Nat->Nat}{lc cc:Value}{T:b8}{c:Nat->Rat}{lp:bD}
theorem aC1{row:List Value}{k:Nat}{a b c d e:Value}(h:cX row k 5=some [a,b,c,d,e]):row[k+3]? = some d:=by
 unfold cX at h;by_cases ai:k+5<=row.length
 ·rw[dA,bZK ai,cond_true]at h;have h:=bYd h;have:(List.take 5 (List.drop k row))[3]? = some d:=by rw[h];rfl
  rw[pT (by omega),o']at this;exact this
 ·rw[dA,bYy ai,cond_false]at h;cases h
theorem Lo(au:lp.ok)(aC:r4 lp P c){x:Nat}:sz (iD P c x) 10000:=by
 unfold iD;split
 ·rename_i h;rw[aC.cost x h];have az:x<lp.aj.length:=by rw[<-aC.n];exact h
  exact jf (k:=10000) (au.cs (lp.col x) (fR (bD.Cn az))).2.2 (by decide)
 ·exact uh (by decide)
theorem acu(al:hj X)(g0:cl pm H0)(au:lp.ok)(hm:lp.dP=true)(aC:r4 lp P c)(aD:dH P ba H0 aA lc cc T)(af:kI H0 lc lp.aj){x:Nat}(_az:x<100000):
 Call X pm F.u2 [.pointer (some ⟨aA 0,0,none⟩),.int .i64 (x:Int)] H0 λr H'=>K pm H0 H'/\c1 H' r (iD P c x):=by
 refine Call.h6 al.u2 rfl λQ bU=>?_;obtain⟨base,cap,rfl,eU⟩:=af.at;have fq:=aD.t;by_cases Av:x<P.n
 ·have qO:x<lp.aj.length:=by rw[<-aC.n];exact Av
  obtain⟨b',off,kO,row,cs,rfl,e2,bd,b1,cQ,cK,rfl⟩:=eU x qO;have lb:=fR cK;have lZ:=bD.zB cK;have aC2:=aC1 b1;have uj:=On (Ci hm lb);have d':=(au.cs cQ lb).2.2;have dr:cQ.cost≠[]:=by rintro e;rw[e]at uj;simp[isNum,Jj]at uj
  simp[fq,qO,e2,bd,aC2];refine aR.bZb (vs:=[aW cQ.cost]) (Dt al g0 (by omega) λ_=>uj) ?_;rintro r H1 ⟨av,U⟩;rw[gT,aU dr]at U;simp;refine bU _ _ _ ?_;simp;exact⟨av,by rw[iD,bm Av,aC.cost x Av,lZ];exact U⟩
 ·have qO:¬x<lp.aj.length:=by rw[<-aC.n];exact Av
  simp[fq,qO];refine aR.bZb (vs:=[.int .i64 0]) (sE al.toOb g0 (n:=0) (by omega) (by omega)) ?_;rintro r H1 ⟨av,U⟩;simp;refine bU _ _ _ ?_;simp;exact⟨av,by rw[iD,aU Av];simpa using U⟩
def nA(P:cr)(c:Nat->Rat)(T:b8)(i k:Nat):Rat:=iD P c (T.aj k)+bs (λi=>iD P c (T.rows i)*T.M i k) i
theorem Lp(au:lp.ok)(aC:r4 lp P c){t:Nat}(aG:l4 P T t){k:Nat}(ag:k<P.n):∀{i:Nat},i<=P.m->sz (nA P c T i k) (10001+i*(10001+t))
 | 0,_=>by
   rw[nA,bs,bYG];exact ff (Lo au aC) (by omega)
 | i+1,hi=>by
   have ih:=Lp au aC aG ag (i:=i) (by omega);have:nA P c T (i+1) k=nA P c T i k+iD P c (T.rows i)*T.M i k:=by
    rw[nA,nA,bs];grind
   rw[this];refine ff (zz ih (la (Lo au aC) (aG.M i k (by omega) ag))) ?_;rw[bZW];omega
theorem aC3(al:hj X)(g0:cl pm H0)(ea:K pm H0 H)(dU:s9 P){j1 rb:Nat}(Lq:H0.next<=j1)(dr:rb≠j1){d M:Nat->Rat}{q:Rat}{t td:Nat}(aV:sz q 10000)(aS:t<=100000)(dp:∀k,k<P.n->sz (M k) t)(zq:td<=10000000)(aB:∀k,k<P.n->sz (d k) td)
 (an:eV H rb P.n P.n M) (gx:0<P.n->eV H j1 P.n P.n d) {w:Value} (hw:c1 H w q) {L:bQ} {i:Nat} {u0 u30:Value} (c0:a7 0 L=some u0) (eT:a7 3 L=some (sl j1 P.n)) (dO:a7 7 L=some (.slice (some ⟨rb,0,none⟩) P.n P.n)) (e3:a7 8 L=some w)
 (aC4:a7 30 L=some u30) (aC5:a7 31 L=some (.int .i64 (P.m:Int))) (aC6:a7 32 L=some (.int .i64 (i:Int))) {Q:c'}
 (fin:∀l' H',K pm H0 H'->gS j1 H H'->(0<P.n->eV H' j1 P.n P.n λk=>d k+q*M k)->Sub [(32,.int .i64 (i:Int)),(31,.int .i64 (P.m:Int)),(0,u0),(3,sl j1 P.n),(30,u30)] l'->Q .normal l' H'):
 wp X pm (.code GV) L H [] Q:=by
 have j2:=dU.n;have fC:t<=iP:=bH aS (by decide);have yN:td<=iP:=bH zq (by decide);obtain⟨GR,rfl,aaw⟩:=id hw;simp[dO,-SR]
 refine gG (σ:=Unit) P.n (λ_ _=>[(32,.int .i64 (i:Int)),(31,.int .i64 (P.m:Int)),(0,u0),(3,sl j1 P.n),(30,u30),(49,.slice (some ⟨rb,0,none⟩) P.n P.n),(8,.pointer (some ⟨GR,0,none⟩))])
  (λk _ H'=>K pm H0 H'/\gS j1 H H'/\(0<P.n->eV H' j1 P.n P.n λy=>if y<k then d y+q*M y else d y)) () (by decide) (by omega) (by simp[c0,eT,e3,aC4,aC5,aC6]) ⟨ea,gS.refl,λh=>(gx h).congr λy _=>by simp⟩ (by simp) ?_ ?_
 ·rintro k _ H1 ag ⟨av,ao,gQ⟩;have g1:=av.aL;have gQ:=gQ (by omega);obtain⟨rs,b4,cB,dh⟩:=an;obtain⟨gP,vd,ib⟩:=dh k ag;have aC7:=ao rb _ dr b4;have k0:=dp k ag;obtain⟨ds,d1,d2,d3⟩:=id gQ;obtain⟨GH,GI,xb⟩:=d3 k ag;have xy:(λy=>if y<k then d y+q*M y else d y) k=d k:=by simp
  rw[xy]at xb;have SS:c1 H1 gP (M k):=ao.eW (gx (by omega)).choose_spec.1 ib;have eo:c1 H1 (.pointer (some ⟨GR,0,none⟩)) q:=ao.eW (gx (by omega)).choose_spec.1 hw;have eF:∀(H':ah) (u:Value),eV H' j1 P.n P.n (λy=>if y=k then d k+q*M k else if y<k then d y+q*M y else d y)->eV H' j1 P.n P.n λy=>if y<k+1 then d y+q*M y else d y:=λH' u h=>h.congr λy _=>by
   by_cases e:y=k
   ·subst e;simp
   ·by_cases e2:y<k
    ·simp[e,e2,show y<k+1 by omega]
    ·simp[e,e2,show ¬y<k+1 by omega]
  simp[aC7,vd,ag,-SU,-SV];refine aR.bZb (vs:=[gP]) (jF al.toOb g1 SS.of (k0.ca fC)) ?_;rintro _ H1 ⟨rfl,rfl⟩;by_cases gU:M k=0
  ·simp[lj,gU];refine⟨av,ao,λ_=>gQ.congr λy _=>?_⟩;by_cases e:y=k
   ·subst e;simp[gU,bYG]
   ·by_cases e2:y<k
    ·simp[e2,show y<k+1 by omega]
    ·simp[e2,show ¬y<k+1 by omega]
  ·have nj:=g1.lt d1;rw[eQ (show 0<P.n by omega)];simp[lj,gU];refine eg.of g1.lo rfl ?_;have bE:K pm H1 (H1.up 12):=(K.refl g1).up 12;simp[dt,g1.none,g1.fo,d1,GI,ag];have GF:=λm=>qz (eo.up bE) (SS.up bE) (bE.some g1 d1) m;refine bZx bE.aL (vs:=[.pointer (some ⟨GR,0,none⟩),gP]) (by simp[g1.none]) (λpm' bS=>sF al.toOb bS (eo.up bE).of (SS.up bE).of (aV.ca (by decide)) (k0.ca fC)) ?_;rintro qZ ep cv f6;have df:=cv.res g1;simp;refine bYf cv.aL (vs:=[GH,qZ]) (by simp[df]) (λpm' bS=>v8 al.toOb bS ((xb.up bE).up cv).of f6.of ((aB k ag).ca yN) ((la aV k0).ca (bH (show 10000+t<=110000 by omega) (by decide)))) ?_;rintro AH hM dJ f7;have dW:=(K.trans cv dJ).res g1;have yJ:=bE.trans (cv.trans dJ);have qE:=yJ.some g1 d1;obtain⟨GD,rfl,_⟩:=id f7;have eO:∀o,Perm.may ⟨pm.lo,pm.ok,o⟩ j1=true:=λo=>jh (bH g0.lo Lq);simp[dW,qE,ag,eO,show k<ds.length by omega,dx,dm,nj,ez,GF];obtain⟨u8,d8⟩:=eV.put (m:=H0.next) dJ.aL Lq qE d2 (λy bu=>(d3 y bu).imp λv aw=>⟨aw.1,aw.2.up yJ⟩) ag f7 (k':=P.n) (λy bu=>.inr bu);exact⟨bp.trans (av.trans yJ) u8,ao.trans (gS.trans (yJ.uf g1) gS.put),λ_=>eF _ (.pointer none) d8⟩
 ·rintro _ H1 ⟨av,ao,gQ⟩;simp;exact fin _ _ av ao (λh=>(gQ h).congr λy bu=>by simp[bu]) (by simp)
end
theorem n7.aC8{v:Value}{i n:Nat}{x:Nat->Rat}(h:n7 pm n H v i x)(aD:i=0->v=.slice none 0 0):∃j1,v=sl j1 i/\(0<i->n<=j1/\eV H j1 i i x):=by
 obtain⟨ss,o,gs,au,az⟩:=h;by_cases h:i=0
 ·subst h;exact⟨0,aD rfl,λh=>by omega⟩
 ·cases o with
  | none=>
    obtain⟨rfl,_,rfl⟩:=gs;exact absurd rfl h
  | some d=>
    obtain⟨rfl,aO,aK⟩:=gs;exact⟨d,(eQ (by omega)).symm,λ_=>⟨(au d rfl).1,ss,aK,by simpa using aO,az⟩⟩
section
variable{P:cr}{ba:Nat}{aA:Nat->Nat}{lc cc:Value}{T:b8}{c:Nat->Rat}{lp:bD}
theorem dH.lt(h:dH P ba H aA lc cc T)(g:cl pm H){i:Nat}(hi:i<P.m):aA (5+i)<H.next:=by
 obtain⟨cH,U,_⟩:=h.row i hi;exact g.lt U
theorem acv(al:hj X)(g0:cl pm H0)(au:lp.ok)(hm:lp.dP=true)(aC:r4 lp P c)(aD:dH P ba H0 aA lc cc T)(af:kI H0 lc lp.aj)(bj:fh P T){t:Nat}(aS:t<=100000)(aG:l4 P T t):
 Call X pm F.u3 [.pointer (some ⟨aA 0,0,none⟩)] H0 λr H'=>K pm H0 H'/\mx H' r P.n (red P c T):=by
 refine Call.h6 al.u3 rfl λQ bU=>?_;have dU:=aC.ok au;have j2:=dU.n;have mM:=dU.m;have fq:=aD.t;obtain⟨fK,bd,Lr⟩:=uA (aA 3) P.n;rw[bd]at fq;simp[fq,-SW,-SX]
 refine gG (σ:=Value) P.n (λ_ u=>[(0,.pointer (some ⟨aA 0,0,none⟩)),(3,u),(14,.slice fK P.n P.n)])
  (λk u H'=>K pm H0 H'/\n7 pm H0.next H' u k (nA P c T 0)/\(k=0->u=.slice none 0 0)) (.slice none 0 0) (by decide) (by omega) (by simp) ⟨K.refl g0,n7.nil,λ_=>rfl⟩ (by simp) ?_ ?_
 ·rintro k u H1 ag ⟨av,bc,_⟩;obtain rfl:=Lr (by omega);have g1:=av.aL;have t1:=aD.k g0 av;obtain⟨cs,cy,dd,dy⟩:=t1.c (by omega);have xd:=dy k ag;have q1:=bj.c k ag;simp[cy,xd,ag,-SY];refine aR.bZb (vs:=[.pointer (some ⟨aA 0,0,none⟩),.int .i64 (T.aj k:Int)]) (acu al g1 au hm aC t1 (af.ext (av.ext g0)) (by omega)) ?_;rintro r aJ ⟨aI,an⟩;obtain⟨bN,cx,a2,a3⟩:=(bc.k g1 aI).app (by':=8) aI.aL an (by omega) (by omega) (av.trans aI).next;have R2:(λj=>if j=k then iD P c (T.aj k) else nA P c T 0 j)=nA P c T 0:=by
   funext j;by_cases e:j=k
   ·subst e;simp[nA,bs,bYG]
   ·simp[e]
  rw[R2]at a2;obtain⟨a,rfl,_⟩:=id an;simp[aI.aL.pick,aI.aL.make,fill,setCells,cx];exact⟨bp.trans (av.trans aI) a3,a2⟩
 ·rintro u H1 ⟨av,bc,zU⟩;have g1:=av.aL;obtain⟨j1,rfl,Lq⟩:=bc.aC8 zU;obtain⟨rQ,b1,aC9⟩:=uA (aA 4) P.m;have fO:=av.some g0 aD.t;rw[b1]at fO;obtain⟨AR,aDa,aDb,aDc⟩:∃AR,sl j1 P.n=sl AR P.n/\H0.next<=AR/\(0<P.n->eV H1 AR P.n P.n (nA P c T 0)):=by
   by_cases h:P.n=0
   ·exact⟨H0.next,by simp[sl,h],bR _,λgJ=>by omega⟩
   ·obtain⟨U,aa⟩:=Lq (by omega);exact⟨j1,rfl,U,λ_=>aa⟩
  rw[aDa];simp[fO,-SZ]
  refine gG (σ:=Unit) P.m (λ_ _=>[(0,.pointer (some ⟨aA 0,0,none⟩)),(3,sl AR P.n),(30,.slice rQ P.m P.m)])
   (λi _ H'=>K pm H0 H'/\(0<P.n->eV H' AR P.n P.n (nA P c T i))) () (by decide) (by omega) (by simp) ⟨av,aDc⟩ (by simp) ?_ ?_
  ·rintro i _ aJ hi ⟨aI,kd⟩;obtain rfl:=aC9 (by omega);have g2:=aI.aL;have t2:=aD.k g0 aI;obtain⟨ms,m1,m2,m3⟩:=t2.m (by omega);have AF:=m3 i hi;obtain⟨rs,b4,cB,dh⟩:=t2.r (by omega);have yI:=dh i hi;have eb:=t2.t;rw[eQ (b:=aA 2) (show 0<P.m by omega)]at eb;have AE:=bj.r i hi;simp[m1,AF,hi,eb,b4,yI,-S0,-S1];refine aR.bZb (vs:=[.pointer (some ⟨aA 0,0,none⟩),.int .i64 (T.rows i:Int)]) (acu al g2 au hm aC t2 (af.ext (aI.ext g0)) (by omega)) ?_;rintro r bN ⟨aQ,an⟩;have h0:=aI.trans aQ;have gz:∀k,nA P c T (i+1) k=nA P c T i k+iD P c (T.rows i)*T.M i k:=λk=>by rw[nA,nA,bs];grind
   simp[-S2,-GV];refine aR.bZb (vs:=[r]) (jF al.toOb aQ.aL an.of ((Lo au aC).ca (by decide))) ?_;rintro _ bN ⟨rfl,rfl⟩;by_cases bl:iD P c (T.rows i)=0
   ·simp[lj,bl];exact⟨h0,λh=>((kd h).k g2 aQ).congr λk _=>by rw[gz,bl];grind⟩
   ·have dr:aA (5+i)≠AR:=by
     have:=aD.lt g0 hi;omega
    simp[lj,bl,-GV];refine aC3 al g0 h0 dU aDb dr (q:=iD P c (T.rows i)) (M:=T.M i) (d:=nA P c T i) (t:=t) (td:=10000000) (Lo au aC) aS (λk ag=>aG.M i k hi ag) (by omega) (λk ag=>ff (Lp au aC aG ag (bUP hi)) ?_) ((t2.row i hi).k g2 aQ) (λh=>(kd h).k g2 aQ) an (u0:=.pointer (some ⟨aA 0,0,none⟩)) (u30:=.slice (some ⟨aA 4,0,none⟩) P.m P.m) (i:=i) (by simp) (by simp) (by simp) (by simp) (by simp) (by simp) (by simp) λl' H' k' bw m' ku=>?_
    ·have:i*(10001+t)<=40*110001:=ie (by omega) (by omega);omega
    ·simp;exact⟨by simpa using ku,k',λh=>(m' h).congr λk _=>gz k⟩
  ·rintro _ aJ ⟨aI,kd⟩;simp;refine bU _ _ _ ?_;simp;refine⟨aI,?_⟩;by_cases h:P.n=0
   ·rw[h];exact⟨none,0,rfl,λi hi=>absurd hi (od _)⟩
   ·rw[eQ (by omega)];exact(kd (by omega)).row
end
abbrev tyF:Nat:=T.aDd
theorem kS{b c:Nat}(h:b≠c):gp [b] [c]=true:=by simp[gp,h]
theorem bp.fill(u:bp pm n H H'){c:Nat}(h:n<=c)(aK:H'.get c=none)(af:c<H'.next)(x:cj):bp pm n H (H'.put c x) where
 aL:=⟨⟨u.aL.num,u.aL.lo,λb ai=>by
  have ai:H'.next<=b:=ai;rw[ah.fS,aU (by omega)];exact u.aL.wf b ai,λb ai=>trivial⟩,by
  show(H'.put c x).get 1=_;rw[ah.fS,aU]
  ·exact u.aL.fJ
  ·rintro rfl;rw[u.aL.fJ]at aK;cases aK⟩
 next:=u.next
 get:=λb ai=>by rw[ah.fS,aU (by omega)];exact u.get b ai
 eE:=λb o e=>by
  have e:=u.eE b o e;rw[ah.fS,aU]
  ·exact e
  ·rintro rfl;rw[e]at aK;cases aK
section
variable{P:cr}{ba:Nat}{aA:Nat->Nat}{lc cc:Value}{T:b8}{c:Nat->Rat}{lp:bD}
theorem l4.mono{t ra:Nat}(h:l4 P T t)(aS:t<=ra):l4 P T ra:=⟨λx az=>⟨λl e=>ff ((h.v x az).lo l e) aS,λl e=>ff ((h.v x az).up l e) aS,ff (h.v x az).v aS⟩,λi k hi ag=>ff (h.M i k hi ag) aS⟩
theorem aDe(al:hj X)(g0:cl pm H0)(ey:pm.lo<=ba)(aF:ba<=H0.next)(dU:s9 P)(G:b8->Prop){t:Nat}(fO:1<=t)(aS:t<=20000)(bA:∀T,G T->Inv P T/\l4 P T t/\Ends (rO P) T)(hq:∀T dY,G T->rO P T=some dY->G dY)(aD:dH P ba H0 aA lc cc T)(bK:G T):
 Call X pm F.wZ [.pointer (some ⟨aA 0,0,none⟩)] H0 λr H'=>∃dY,bp pm ba H0 H'/\dH P ba H' aA lc cc dY/\G dY/\(uC P dY=none/\r=.tuple #[.int .i64 0,.bool true]∨∃a,uC P dY=some a/\sP P dY a (off P dY.v (dY.rows a))=none/\r=.tuple #[.int .i64 a,.bool false]):=by
 refine Call.h6 al.wZ rfl λQ bU=>?_;have j2:=dU.n;have mM:=dU.m;simp[-S3];refine hv.of (σ:=b8) (λ_=>[(0,.pointer (some ⟨aA 0,0,none⟩))]) (λT H=>bp pm ba H0 H/\dH P ba H aA lc cc T/\G T) (left (rO P)) T (by simp) ⟨bp.refl g0,aD,bK⟩ ?_;rintro T H1 ⟨fQ,t1,bK⟩;obtain⟨inv,aG,tC⟩:=bA T bK;have bj:=inv.bj;have g1:=fQ.aL;simp[-S4,-S5];refine aR.bZb (vs:=[.pointer (some ⟨aA 0,0,none⟩)]) (aCO al g1 dU t1 bj (t:=t) (by omega) aG) ?_;rintro _ aJ ⟨aI,rfl⟩;have j6:=bH aF fQ.next;have fm:=fQ.k aI j6
 cases hw:uC P T with
 | none=>
   simp[e5];refine bU _ _ _ ?_;simp;exact⟨fm,T,t1.k g1 aI,bK,hw⟩
 | some a=>
   obtain⟨aN,po,_⟩:=zWd hw;have po:off P T.v (T.rows a)≠0:=by simpa using po
   have g2:=aI.aL;have t2:=t1.k g1 aI;have xc:=bj.r a aN;have jK:0<P.n+P.m:=by omega
   have ft:0<P.m:=by omega
   have eb:=t2.t;rw[eQ (b:=aA 1) jK,eQ (b:=aA 2) ft]at eb;obtain⟨rs,b4,cB,dh⟩:=t2.r ft;have Dx:=dh a aN;obtain⟨vs,va,vb,vc,v1,v2,v3⟩:=(t2.v jK).load xc;have l1:=g2.lt eb;have jG:=g2.lt v1;have nj:=g2.lt b4;simp[e5,-Ls];refine eg.of g2.lo rfl ?_;obtain⟨Lt,rfl⟩:=v3.lo.ptr;obtain⟨Lu,rfl⟩:=v3.up.ptr;obtain⟨rJ,rfl,_⟩:=id v3.v;obtain⟨bN,iO⟩:=bZa (((aJ.up 15).put (aJ.next+13) (.cells [.pointer none,.pointer none,.pointer none] (.t tyF))).put (aJ.next+13) (.cells [.pointer Lt,.pointer Lu,.pointer (some ⟨rJ,0,none⟩)] (.t tyF)));have n14:((aJ.up 15).put (aJ.next+13) (.cells [.pointer none,.pointer none,.pointer none] (.t tyF))).get (aJ.next+14)=none:=by rw[cq (by omega)];exact g2.none 14
   have bE:K pm aJ (aJ.up 15):=(K.refl g2).up 15;have aQ:K pm aJ bN:=by
    rw[iO];exact bp.put (bp.fill bE (hS _ _) (g2.none 13) (by show aJ.next+13<aJ.next+15;omega) _) (hS _ _) dX (by simp) _
   have jU:bN.get (aJ.next+13)=some (.cells [.pointer Lt,.pointer Lu,.pointer (some ⟨rJ,0,none⟩)] (.t tyF)):=by rw[iO];exact dX
   have eO:=λo=>jh (ok:=pm.ok) (o:=o) (lo:=pm.lo) (b:=aJ.next+13) (bH g2.lo (hS _ _));have DA:=g2.none 13;have Lv:=kS (show aJ.next+13≠aA 0 by omega);have Jq:=kS (show aJ.next+13≠aA 1 by omega);have Jr:=kS (show aJ.next+13≠aA 2 by omega);simp[dt,g2.none,g2.fo,eb,b4,Dx,aN,v1,v2,xc,Perm.make,Perm.pick,ptr,c5,<-iO,n14,eO,dx,dm,l1,jG,nj,ez,Lv,Jq,Jr,-Ls];clear iO n14 Lv Jq Jr DA;have g3:=aQ.aL;have fu:=fm.k aQ (bH j6 aI.next);have GW:=aG.v _ xc;have acw:=g3.lt jU;have w9:K pm bN (bN.up 6):=(K.refl g3).up 6;simp[-Lw];refine eg.of g3.lo rfl ?_;simp[dt,g3.none,g3.fo,jU,cX,-Lw];have DA:=acw;generalize aJ.next+13=b at*
   refine GA w9.aL (vs:=[.agg #[.pointer Lt,.pointer Lu,.pointer (some ⟨rJ,0,none⟩)]]) (by simp[g3.none]) (by simp) (by simp[c5]) rfl (λpm' bS=>Sf al bS ((v3.k aQ).k w9) GW (by omega)) ?_;rintro _ cp bt rfl;have df:=bt.res g3;have ji:=w9.trans bt;have mw:=ji.some g3 jU;have eX:=fu.k ji (bH (bH j6 aI.next) aQ.next);have t4:=(t2.k g2 aQ).k g3 ji;have v4:=(v3.k aQ).k ji;have g4:=eX.aL;have Lx:=bH aF eX.next;simp[df,dx,dm,acw,eJ,ez,gI,-GX];obtain⟨w,AS⟩:=bZa (off P T.v (T.rows a));have eo:=Ab po;rw[<-AS]at eo|-
   have rest:∀(Ly:Value) (L:bQ),c1 cp Ly (goal P (T.rows a) w)->a7 0 L=some (.pointer (some ⟨aA 0,0,none⟩))->a7 4 L=some (.int .i64 (a:Int))->a7 5 L=some (.pointer (some ⟨b,0,none⟩))->a7 6 L=some (.int .i64 w)->a7 7 L=some Ly->
    wp X pm (.code GX) L cp [] λx l H=>(x=.ret/\sP P T a w=none/\a7 2 l=some (.int .i64 (a:Int))/\a7 3 l=some (.bool false)/\bp pm ba H0 H/\dH P ba H aA lc cc T)∨(x=.normal/\∃col,sP P T a w=some col/\a7 0 l=some (.pointer (some ⟨aA 0,0,none⟩))/\bp pm ba H0 H/\dH P ba H aA lc cc (l2 P T a col)):=by
    intro Ly L aDf c0 hP lf h1 dO;simp[c0,hP,h1,-S6,-S7];refine aR.of (vs:=[.pointer (some ⟨aA 0,0,none⟩),.int .i64 (a:Int),.int .i64 w]) (by simp) (by simp) (aCN al g4 dU t4 bj (t:=t) (by omega) aG aN eo) ?_;rintro _ cV ⟨cd,rfl⟩;have g5:=cd.aL;have t5:=t4.k g4 cd;have hl:=eX.k cd Lx
    cases c9:sP P T a w with
    | none=>
      simp[e5,hP];exact⟨hl,t5⟩
    | some col=>
      obtain⟨af,gy,_⟩:=zWd c9;simp only[cG,eh]at gy;have S8:=gy.1;have qH:=cd.some g4 mw;have pO:=t5.t;rw[eQ (b:=aA 4) ft]at pO;obtain⟨ms,m1,m2,m3⟩:=t5.m ft;have AI:=m3 a aN;obtain⟨cH,bJ,bG,cO⟩:=t5.row a aN;obtain⟨o1,u',n9⟩:=cO col af;have hB:=g5.lt pO;have bn:=g5.lt m1;have bh:=g5.lt bJ;have cu:=g5.lt qH;have vg:K pm cV (cV.up 20):=(K.refl g5).up 20;simp[e5,-GY];refine eg.of g5.lo rfl ?_;simp[dt,g5.none,g5.fo,c0,hP,lf,dO,qH,pO,m1,AI,aN,bJ,u',af,-GY];have ki:=K.trans cd vg;have GZ:=aDf.up ki;have v5:=v4.v.up ki;have cY:=vg.some g5 pO;have ao:=vg.some g5 m1;have e2:=vg.some g5 bJ;have bd:=vg.some g5 qH;have jx:=λm=>qz GZ v5 cY m;have tU:=λm=>qz GZ v5 ao m;have zw:=λm=>qz GZ v5 e2 m;have Fa:=λm=>qz GZ v5 bd m;have k0:=aG.M a col aN af;have acx:sz (goal P (T.rows a) w) t:=by
       unfold goal
       rcases eo with eo | eo
       ·rw[eo,aU (by decide)]
        cases e:P.lo (T.rows a) with
        | none=>exact uh fO
        | some l=>exact GW.lo l e
       ·rw[eo,bm (by decide)]
        cases e:P.up (T.rows a) with
        | none=>exact uh fO
        | some l=>exact GW.up l e
      have fC:t<=iP:=bH aS (by decide);have yN:2*t+1<=iP:=bH (show 2*t+1<=50000 by omega) (by decide);have acy:=Dq acx GW.v;have aDg:sz (z' P T a col) (4*t+2):=by
       unfold z';rw[<-AS];exact ff (Lg acy (ff k0 (by omega)) S8) (by omega)
      refine bZx vg.aL (vs:=[Ly,.pointer (some ⟨rJ,0,none⟩)]) (by simp[g5.none]) (λpm' bS=>Jp al.toOb bS GZ.of v5.of (acx.ca fC) (GW.v.ca fC)) ?_;rintro qZ ep cv f6;have nq:=cv.res g5;have we:=vg.trans cv;have aDh:=n9.up we;simp[-GY];refine bYf cv.aL (vs:=[qZ,o1]) (by simp[nq]) (λpm' bS=>K8 al.toOb bS f6.of aDh.of (acy.ca yN) (k0.ca fC) S8) ?_;rintro _ hM dJ ⟨AH,rfl,f7⟩;have pG:=(K.trans cv dJ).res g5;have acz:=we.trans dJ;have g7:=dJ.aL;have tb:=hl.k acz (bH Lx cd.next);have acA:=bH aF tb.next;have t7:=t5.k g5 acz;have aDi:(goal P (T.rows a) w-T.v (T.rows a))/T.M a col=z' P T a col:=by rw[z',AS]
      rw[aDi]at f7;simp[pG,dx,dm,hB,bn,bh,cu,ez,jx,tU,zw,c0,-S9];refine aR.of (vs:=[.pointer (some ⟨aA 0,0,none⟩),.int .i64 (col:Int),AH]) (by simp) (by simp) (ab3 al g7 ey acA dU t7 bj (t:=4*t+2) (by omega) (aG.mono (by omega)) af f7 aDg) ?_;rintro abn ns ⟨u8,t8⟩;have Fz:=bH acA u8.next;simp[c0,hP];refine aR.of (vs:=[.pointer (some ⟨aA 0,0,none⟩),.int .i64 (a:Int),.int .i64 (col:Int)]) (by simp) (by simp) (acf al u8.aL ey Fz dU t8 (t:=t) fO (by omega) (λi k hi ag=>aG.M i k hi ag) aN af S8) ?_;rintro aHk yf ⟨xg,t9⟩;simp[c0];exact⟨(tb.trans u8).trans xg,t9⟩
   have fin:∀x l H,((x=.ret/\sP P T a w=none/\a7 2 l=some (.int .i64 (a:Int))/\a7 3 l=some (.bool false)/\bp pm ba H0 H/\dH P ba H aA lc cc T)∨(x=.normal/\∃col,sP P T a w=some col/\a7 0 l=some (.pointer (some ⟨aA 0,0,none⟩))/\bp pm ba H0 H/\dH P ba H aA lc cc (l2 P T a col)))->wp X pm (.res x) l H [.bI 1] λx l' H'=>match x with
    | .normal=>rF (λ(_:b8)=>[(0,.pointer (some ⟨aA 0,0,none⟩))]) (λT H=>bp pm ba H0 H/\dH P ba H aA lc cc T/\G T) (left (rO P)) T l' H'
    | x=>wp X pm (.res x) l' H' [.bI 0] Q:=by
    rintro x l H (⟨rfl,c9,cJ,eT,u,t⟩ | ⟨rfl,col,c9,c0,u,t⟩)
    ·simp;refine bU _ _ _ ?_;simp[cJ,eT];exact⟨u,T,t,bK,a,hw,by rw[<-AS];exact c9,rfl⟩
    ·simp;have G0:rO P T=some (l2 P T a col):=by rw[rO,hw];simp only;rw[<-AS,c9]
     exact rF.of (l2 P T a col) (Zi tC G0) (by simpa using c0) ⟨u,t,hq _ _ bK G0⟩
   simp[mw,-GX]
   rcases yj po with⟨ao,l,aO,_⟩ | ⟨ao,l,aO,_⟩
   ·have aDj:w=1:=AS.trans ao;refine⟨λh=>by omega,λ_=>wp_cut _ (rest (.pointer Lt) _ ?_ (by simp) (by simp) (by simp) (by simp) (by simp)) fin⟩;have:=v4.lo;rw[aO]at this;rw[goal,aU (by omega),aO];exact this
   ·have aDj:w=-1:=AS.trans ao;refine⟨λ_=>wp_cut _ (rest (.pointer Lu) _ ?_ (by simp) (by simp) (by simp) (by simp) (by simp)) fin,λh=>by omega⟩;have:=v4.up;rw[aO]at this;rw[goal,bm (by omega),aO];exact this
end
section
variable{P:cr}{ba:Nat}{aA:Nat->Nat}{lc cc:Value}{T:b8}{c:Nat->Rat}{lp:bD}
theorem aDk(al:hj X)(g0:cl pm H0)(ey:pm.lo<=ba)(aF:ba<=H0.next)(au:lp.ok)(hm:lp.dP=true)(aC:r4 lp P c)(_af:kI H0 lc lp.aj)(uj:∀H',bp pm ba H0 H'->kI H' lc lp.aj)(G:b8->Prop){t:Nat}(fO:1<=t)(aS:t<=20000)(bA:∀T,G T->Inv P T/\l4 P T t/\Ends (pE P c) T)(hq:∀T dY,G T->pE P c T=some dY->G dY)(aD:dH P ba H0 aA lc cc T)(bK:G T):
 Call X pm F.w3 [.pointer (some ⟨aA 0,0,none⟩)] H0 λr H'=>∃dY,bp pm ba H0 H'/\dH P ba H' aA lc cc dY/\G dY/\(enters P c dY=none/\r=.tuple #[.int .i64 (-1),.int .i64 0]∨∃col,enters P c dY=some col/\(fv P dY col (gl P c dY col) P.m).gH=none/\r=.tuple #[.int .i64 col,.int .i64 (gl P c dY col)]):=by
 refine Call.h6 al.w3 rfl λQ bU=>?_;have dU:=aC.ok au;have j2:=dU.n;have mM:=dU.m;simp[-S'];refine hv.of (σ:=b8) (λ_=>[(0,.pointer (some ⟨aA 0,0,none⟩))]) (λT H=>bp pm ba H0 H/\dH P ba H aA lc cc T/\G T) (left (pE P c)) T (by simp) ⟨bp.refl g0,aD,bK⟩ ?_;rintro T H1 ⟨fQ,t1,bK⟩;obtain⟨inv,aG,tC⟩:=bA T bK;have bj:=inv.bj;have g1:=fQ.aL;have j6:=bH aF fQ.next;simp[-Ta,-Lz];refine aR.bZb (vs:=[.pointer (some ⟨aA 0,0,none⟩)]) (acv al g1 au hm aC t1 (uj _ fQ) bj (t:=t) (by omega) aG) ?_;rintro d aJ ⟨aI,aB⟩;have g2:=aI.aL;have fm:=fQ.k aI j6;have rj:=bH aF fm.next;have t2:=t1.k g1 aI;have G1:∀k,k<P.n->sz (red P c T k) 10000000:=λk ag=>ff (Lp au aC aG ag (bR P.m)) (by
  have:P.m*(10001+t)<=40*30001:=ie mM (by omega);omega)
 simp[-Tb,-Lz];refine aR.bZb (vs:=[.pointer (some ⟨aA 0,0,none⟩),d]) (aCR al g2 dU t2 bj (t:=t) (by omega) aG aB (td:=10000000) (by omega) G1) ?_;rintro _ bN ⟨aQ,rfl⟩;have g3:=aQ.aL;have fu:=fm.k aQ rj;have aDl:=bH aF fu.next;have t3:=t2.k g2 aQ
 cases he:enters P c T with
 | none=>
   simp[e5,GP];refine bU _ _ _ ?_;simp;exact⟨fu,T,t3,bK,he⟩
 | some col=>
   obtain⟨d',gy,_⟩:=zWd he;simp only[cG,eh]at gy;have eo:gl P c T col=1∨gl P c T col=-1:=by
    unfold gl
    rcases lq gy.1 with⟨_,e⟩ | ⟨_,e⟩<;>rw[e]<;>simp
   obtain⟨way,kn⟩:=bZa (gl P c T col);rw[<-kn]at eo;simp[e5,GP,<-kn,-Tc,-Td];refine aR.bZb (vs:=[.pointer (some ⟨aA 0,0,none⟩),.int .i64 (col:Int),.int .i64 way]) (aCU al g3 dU t3 bj (t:=t) (by omega) aG d' eo) ?_;rintro _ cp ⟨bt,f,rfl,bc⟩;have g4:=bt.aL;have eX:=fu.k bt aDl;have Lx:=bH aF eX.next;have t4:=t3.k g3 bt;have acB:=J1 P T col way P.m;have acC:=acp aG bj d' (way:=way) (bR P.m);obtain⟨L,bC⟩:=bZa (fv P T col way P.m);rw[<-bC]at acB acC bc|-
   cases iE:L.gH with
   | none=>
     rw[iE]at bc;obtain rfl:f=.pointer none:=bc;simp;refine bU _ _ _ ?_;simp;exact⟨eX,T,t4,bK,col,he,by rw[<-kn,<-bC];exact iE,rfl,kn⟩
   | some q=>
     rw[iE]at bc;obtain⟨yC,rfl,KT⟩:=id bc;have aV:=acC q iE;have G0:pE P c T=some (l3 P T col way q L.ind):=by rw[pE,he];simp only;rw[<-kn,<-bC,iE]
     have bO:=Zi tC G0;have aDm:=hq _ _ bK G0
     have tail:∀(cV:ah) (u:Value) (l:bQ),K pm cp cV->c1 cV u (if way<0 then -q else q)->a7 0 l=some (.pointer (some ⟨aA 0,0,none⟩))->a7 4 l=some (.int .i64 (col:Int))->a7 6 l=some u->a7 7 l=some (.int .i64 (e5 L.ind))->
      wp X pm (.code G2) l cV [] λx l H=>x=.normal/\a7 0 l=some (.pointer (some ⟨aA 0,0,none⟩))/\bp pm ba H0 H/\dH P ba H aA lc cc (l3 P T col way q L.ind):=by
      intro cV u l cd hu c0 hP h1 dO;have ju:sz (if way<0 then -q else q) (4*t+2):=by
       split
       ·exact vP aV
       ·exact aV
      have hl:=eX.k cd Lx;have aDn:=bH aF hl.next;simp[c0,hP,h1,-Te];refine aR.of (vs:=[.pointer (some ⟨aA 0,0,none⟩),.int .i64 (col:Int),u]) (by simp) (by simp) (ab3 al cd.aL ey aDn dU (t4.k g4 cd) bj (t:=4*t+2) (by omega) (aG.mono (by omega)) d' hu ju) ?_;rintro NS ep ⟨kk,t6⟩;have Tf:=hl.trans kk;have Q6:=bH aF Tf.next
      cases hi:L.ind with
      | none=>
        simp[dO,hi,e5,c0];exact⟨Tf,t6⟩
      | some a=>
        obtain⟨aN,dp,_⟩:=acB.row a hi;simp[dO,hi,e5,c0,hP];refine aR.of (vs:=[.pointer (some ⟨aA 0,0,none⟩),.int .i64 (a:Int),.int .i64 (col:Int)]) (by simp) (by simp) (acf al kk.aL ey Q6 dU t6 (t:=t) fO (by omega) (λi k hi ag=>aG.M i k hi ag) aN d' dp) ?_;rintro PC hM ⟨tb,t7⟩;simp[c0];exact⟨Tf.trans tb,t7⟩
     have fin:∀x l H,(x=.normal/\a7 0 l=some (.pointer (some ⟨aA 0,0,none⟩))/\bp pm ba H0 H/\dH P ba H aA lc cc (l3 P T col way q L.ind))->wp X pm (.res x) l H [.bI 1] λx l' H'=>match x with
      | .normal=>rF (λ(_:b8)=>[(0,.pointer (some ⟨aA 0,0,none⟩))]) (λT H=>bp pm ba H0 H/\dH P ba H aA lc cc T/\G T) (left (pE P c)) T l' H'
      | x=>wp X pm (.res x) l' H' [.bI 0] Q:=by
      rintro x l H ⟨rfl,c0,u,t⟩;simp;exact rF.of _ bO (by simpa using c0) ⟨u,t,aDm⟩
     simp[-G2];refine⟨λmX=>?_,λnR=>?_⟩
     ·refine aR.bZb (vs:=[.pointer (some ⟨yC,0,none⟩)]) (K7 al.toOb g4 bc.of (aV.ca (bH (show 4*t+2<=90000 by omega) (by decide)))) ?_;rintro u cV ⟨cd,hu⟩;simp[-G2];exact wp_cut _ (tail cV u _ cd (by rw[bm mX];exact hu) (by simp) (by simp) (by simp) (by simp)) fin
     ·exact wp_cut _ (tail cp _ _ (K.refl g4) (by rw[aU (by omega)];exact bc) (by simp) (by simp) (by simp) (by simp)) fin
end
def gv(H:ah)(c n:Nat)(f:Nat->List UInt8):Prop:=∃ss,H.get c=some (.cells ss (.n 1))/\ss.length=n/\∀i,i<n->ss[i]? = some (aW (f i))
theorem gv.k{c n:Nat}{f:Nat->List UInt8}(h:gv H c n f)(g:cl pm H)(k:K pm H H'):gv H' c n f:=let ⟨ss,U,aa⟩:=h;⟨ss,k.some g U,aa⟩
theorem gv.congr{c n:Nat}{f f':Nat->List UInt8}(h:gv H c n f)(e:∀i,i<n->f' i=f i):gv H c n f':=let ⟨ss,U,aa,aq⟩:=h;⟨ss,U,aa,λi hi=>by rw[e i hi];exact aq i hi⟩
theorem gv.put{m c n:Nat}{f:Nat->List UInt8}{ss:List Value}(g:cl pm H)(hm:m<=c)(U:H.get c=some (.cells ss (.n 1)))(aa:ss.length=n)(aq:∀i,i<n->ss[i]? = some (aW (f i))){i:Nat}(hi:i<n)(s:List UInt8):
 bp pm m H (H.put c (.cells (ss.set i (aW s)) (.n 1)))/\gv (H.put c (.cells (ss.set i (aW s)) (.n 1))) c n λj=>if j=i then s else f j:=by
 refine⟨bp.put (.refl g) hm U (by simp) _,_,dX,by simp[aa],λj aH=>?_⟩;by_cases e:j=i
 ·subst e;rw[bVe (by omega)];simp
 ·rw[bWM (Ne.symm e),aq j aH];simp[e]
theorem gv.h7{c n b:Nat}{f:Nat->List UInt8}(h:gv H c n f)(ai:b≠c)(x:cj):gv (H.put b x) c n f:=let ⟨ss,U,aa⟩:=h;⟨ss,by rw[cq (Ne.symm ai)];exact U,aa⟩
theorem gv.strs{c n:Nat}{f:Nat->List UInt8}(h:gv H c n f){cap:Nat}:kh H (.slice (some ⟨c,0,none⟩) n cap) ((List.range n).map f):=by
 obtain⟨ss,U,aa,aq⟩:=h;refine⟨some ⟨c,0,none⟩,cap,by simp,λi hi=>?_⟩;have hi:i<n:=by simpa using hi
 exact⟨c,0,_,ss,_,rfl,U,rfl,by rw[Nat.zero_add];exact aq i hi,f i,by simp[hi],rfl⟩
theorem G3(v:Value):∀n,(times [v] n).length=n
 | 0=>rfl
 | n+1=>by rw[times,tr,G3 v n];simp;omega
theorem BO(v:Value):∀n i,i<n->(times [v] n)[i]? = some v
 | n+1,0,_=>by simp[times]
 | n+1,i+1,h=>by
   have:=BO v n i (by omega);simpa [times]using this
theorem acD(al:hj X)(g0:cl pm H0){n:Nat}(aF:n<=1000):Call X pm F.u5 [.int .i64 (n:Int)] H0 λr H'=>K pm H0 H'/\∃c,r=.slice (some ⟨c,0,none⟩) n n/\H0.next<=c/\gv H' c n λ_=>[48]:=by
 refine Call.h6 al.u5 rfl λQ bU=>?_;simp[rD g0.tocU (show n<=1073741824 by omega) (show 16*n<=17179869184 by omega),-Tg];obtain⟨c,af⟩:=bZa (H0.next);have av:K pm H0 (H0.new (.cells (times [aW []] n) (.n 1))):=K.new g0 _;have s1:gv (H0.new (.cells (times [aW []] n) (.n 1))) c n λi=>if i<0 then[48] else[]:=⟨_,by rw[af];exact dT,G3 _ n,λi hi=>by simpa using BO (aW []) n i hi⟩
 have eO:pm.may c=true:=g0.may (by omega);rw[<-af];refine gG (σ:=Unit) n (λ_ _=>[(3,.slice (some ⟨c,0,none⟩) n n)]) (λk _ H'=>K pm H0 H'/\gv H' c n λi=>if i<k then[48] else[]) () (by decide) (by omega) (by simp) ⟨av,s1⟩ (by simp) ?_ ?_
 ·rintro k _ H1 ag ⟨av,ss,cx,a2,a3⟩;obtain⟨fm,s2⟩:=gv.put (m:=H0.next) av.aL (by omega) cx a2 a3 ag [48];simp[cx,ag,eO,show k<ss.length by omega];refine⟨bp.trans av fm,s2.congr λi hi=>?_⟩;by_cases e:i=k
  ·subst e;simp
  ·by_cases e2:i<k
   ·simp[e,e2,show i<k+1 by omega]
   ·simp[e,e2,show ¬i<k+1 by omega]
 ·rintro _ H1 ⟨av,s1⟩;simp;refine bU _ _ _ ?_;simp;exact⟨av,by omega,s1.congr λi hi=>by simp[hi]⟩
section
variable{P:cr}{ba:Nat}{aA:Nat->Nat}{lc cc:Value}{T:b8}{c:Nat->Rat}{lp:bD}
theorem acE(al:hj X)(g0:cl pm H0)(au:lp.ok)(aC:r4 lp P c)(aD:dH P ba H0 aA lc cc T)(af:kI H0 lc lp.aj){t:Nat}(aS:t<=20000)(aG:l4 P T t):
 Call X pm F.u6 [.pointer (some ⟨aA 0,0,none⟩)] H0 λr H'=>K pm H0 H'/\∃c,r=.slice (some ⟨c,0,none⟩) P.n P.n/\H0.next<=c/\gv H' c P.n λj=>dB (T.v j):=by
 refine Call.h6 al.u6 rfl λQ bU=>?_;have dU:=aC.ok au;have j2:=dU.n;have mM:=dU.m;obtain⟨base,cap,rfl,eU⟩:=af.at;have fq:=aD.t;simp only[<-aC.n]at fq;simp[fq,rD g0.tocU (show P.n<=1073741824 by omega) (show 16*P.n<=17179869184 by omega),-Th];obtain⟨d,aB⟩:=bZa (H0.next);have av:K pm H0 (H0.new (.cells (times [aW []] P.n) (.n 1))):=K.new g0 _;have s1:gv (H0.new (.cells (times [aW []] P.n) (.n 1))) d P.n λi=>if i<0 then dB (T.v i) else[]:=⟨_,by rw[aB];exact dT,G3 _ P.n,λi hi=>by simpa using BO (aW []) P.n i hi⟩
 have eO:pm.may d=true:=g0.may (by omega);rw[<-aB];refine gG (σ:=Unit) P.n (λ_ _=>[(0,.pointer (some ⟨aA 0,0,none⟩)),(3,.slice (some ⟨d,0,none⟩) P.n P.n)]) (λk _ H'=>K pm H0 H'/\gv H' d P.n λi=>if i<k then dB (T.v i) else[]) () (by decide) (by omega) (by simp) ⟨av,s1⟩ (by simp) ?_ ?_
 ·rintro k _ H1 ag ⟨av,ss,cx,a2,a3⟩;have t1:=aD.k g0 av;have fO:=t1.t;rw[eQ (b:=aA 1) (show 0<P.n+P.m by omega)]at fO;obtain⟨vs,v1,v2,v3⟩:=t1.v (by omega);obtain⟨aCy,aX,o1,ao,e2,bd,b1⟩:=v3 k (by omega);simp[fO,v1,bd,show k<P.n+P.m by omega,-Ti];refine aR.bZb (vs:=[o1]) (Cj al.toOb av.aL b1.v.of ((aG.v k (by omega)).v.ca (bH aS (by decide)))) ?_;rintro _ H1 ⟨rfl,rfl⟩;obtain⟨fm,s2⟩:=gv.put (m:=H0.next) av.aL (by omega) cx a2 a3 ag (dB (T.v k));simp[cx,ag,eO,show k<ss.length by omega];refine⟨bp.trans av fm,s2.congr λi hi=>?_⟩;by_cases e:i=k
  ·rw[e];simp
  ·by_cases e2:i<k
   ·simp[e,e2,show i<k+1 by omega]
   ·simp[e,e2,show ¬i<k+1 by omega]
 ·rintro _ H1 ⟨av,s1⟩;simp;refine bU _ _ _ ?_;simp;exact⟨av,by omega,s1.congr (f':=λj=>dB (T.v j)) λi hi=>by simp[hi]⟩
end
section
variable{P:cr}{ba:Nat}{aA:Nat->Nat}{lc cc:Value}{T:b8}{c:Nat->Rat}{lp:bD}
def rS(P:cr)(T:b8)(d:Nat->Rat):Nat->Nat->List UInt8
 | 0,_=>[48]
 | k+1,i=>if T.aj k=P.n+i then dB (d k) else rS P T d k i
theorem acF(al:hj X)(g0:cl pm H0)(au:lp.ok)(aC:r4 lp P c)(aD:dH P ba H0 aA lc cc T)(af:kI H0 lc lp.aj)(an:nY H0 cc lp.rows)(bj:fh P T){d:Nat->Rat}{w:Value}(hw:mx H0 w P.n d){td:Nat}(zq:td<=30000000)(aB:∀k,k<P.n->sz (d k) td):
 Call X pm F.u7 [.pointer (some ⟨aA 0,0,none⟩),w] H0 λr H'=>K pm H0 H'/\∃c,r=.slice (some ⟨c,0,none⟩) P.m P.m/\H0.next<=c/\gv H' c P.m (rS P T d P.n):=by
 refine Call.h6 al.u7 rfl λQ bU=>?_;have dU:=aC.ok au;have j2:=dU.n;have mM:=dU.m;have fC:td<=iP:=bH zq (by decide);obtain⟨base,cap,rfl,eU⟩:=af.at;obtain⟨dG,dE,rfl,xU⟩:=an.at;obtain⟨Jo,iW,rfl,Fs⟩:=hw.ex;have fq:=aD.t;simp only[<-aC.n,<-aC.m]at fq;simp[fq,-Tj,-Tk];refine aR.bZb (vs:=[.int .i64 (P.m:Int)]) (acD al g0 (n:=P.m) (by omega)) ?_;rintro _ H1 ⟨av,e,rfl,he,s1⟩;have eO:∀o,Perm.may ⟨pm.lo,pm.ok,o⟩ e=true:=λo=>jh (bH g0.lo he);obtain⟨fK,bd,Lr⟩:=uA (aA 3) P.n;have fO:=av.some g0 fq;rw[bd]at fO;simp[fO,-Tl];refine gG (σ:=Unit) P.n (λ_ _=>[(0,.pointer (some ⟨aA 0,0,none⟩)),(1,.slice Jo P.n iW),(5,.slice (some ⟨e,0,none⟩) P.m P.m),(18,.slice fK P.n P.n)]) (λk _ H'=>K pm H0 H'/\gv H' e P.m (rS P T d k)) () (by decide) (by omega) (by simp) ⟨av,s1⟩ (by simp) ?_ ?_
 ·rintro k _ aJ ag ⟨aI,ss,cx,a2,a3⟩;obtain rfl:=Lr (by omega);have g2:=aI.aL;have t2:=aD.k g0 aI;have eb:=t2.t;simp only[<-aC.n,<-aC.m]at eb;obtain⟨cs,cy,dd,dy⟩:=t2.c (by omega);have xd:=dy k ag;have q1:=bj.c k ag;by_cases az:P.n<=T.aj k
  ·obtain⟨i,hi⟩:∃i,T.aj k=P.n+i:=⟨T.aj k-P.n,by omega⟩;have DB:i<P.m:=by omega
   obtain⟨cR,Dy,s6,Rl,gP,rfl,iL,qV,wM,GQ⟩:=Fs k ag;have AL:=aI.some g0 iL;have ib:=GQ.up aI;have l1:=g2.lt eb;have jG:=g2.lt AL;have aDo:=g2.lt cx;rw[hi]at xd;have mg:wr .i64 ((P.n:Int)+(i:Int)-(P.n:Int))=(i:Int):=by
    rw[zWc (by omega) (by omega)];omega
   simp[cy,xd,ag,eb];refine⟨λ_=>?_,λh=>by omega⟩;refine eg.of g2.lo rfl ?_;have bE:K pm aJ (aJ.up 16):=(K.refl g2).up 16;simp[dt,g2.none,g2.fo,eb,AL,qV,wM,ag,mg];have BR:=bE.some g2 cx;have Lv:=λm=>rA (ib.up bE) (bE.some g2 eb) m;refine bZx bE.aL (vs:=[gP]) (by simp[g2.none]) (λpm' bS=>kM bS (Cj al.toOb bS (ib.up bE).of ((aB k ag).ca fC))) ?_;rintro _ _-⟨rfl,rfl⟩;obtain⟨fu,de⟩:=gv.put (m:=H0.next) bE.aL he BR a2 a3 DB (dB (d k));simp[g2.none,cx,DB,eO,show i<ss.length by omega,dx,dm,l1,jG,aDo,ez,Lv];refine⟨bp.trans (K.trans aI bE) fu,de.congr λj aH=>?_⟩;rw[rS,hi];by_cases e:j=i
   ·simp[e]
   ·rw[aU (by omega),aU e]
  ·simp[cy,xd,ag,eb];refine⟨λh=>absurd h az,λ_=>⟨aI,ss,cx,a2,λi hi=>?_⟩⟩;rw[a3 i hi,rS,aU (by omega)]
 ·rintro _ aJ ⟨aI,s2⟩;simp;refine bU _ _ _ ?_;simp;exact⟨aI,he,s2⟩
end
section
variable{P:cr}{ba:Nat}{aA:Nat->Nat}{lc cc:Value}{T:b8}{c:Nat->Rat}{lp:bD}
def mH(P:cr)(T:b8)(a k:Nat):Rat:=if 0<off P T.v (T.rows a) then -T.M a k else T.M a k
def qQ(P:cr)(T:b8)(a i:Nat):List UInt8:=if T.rows a=P.n+i then(if 0<off P T.v (T.rows a) then[49] else[45,49]) else rS P T (mH P T a) P.n i
theorem aDp(al:hj X)(g0:cl pm H0)(au:lp.ok)(aC:r4 lp P c)(aD:dH P ba H0 aA lc cc T)(af:kI H0 lc lp.aj)(an:nY H0 cc lp.rows)(bj:fh P T){t:Nat}(aS:t<=20000)(aG:l4 P T t){a:Nat}(aN:a<P.m):
 Call X pm F.w4 [.pointer (some ⟨aA 0,0,none⟩),.int .i64 (a:Int)] H0 λr H'=>K pm H0 H'/\∃c,r=.slice (some ⟨c,0,none⟩) P.m P.m/\H0.next<=c/\gv H' c P.m (qQ P T a):=by
 refine Call.h6 al.w4 rfl λQ bU=>?_;have dU:=aC.ok au;have j2:=dU.n;have mM:=dU.m;have ft:0<P.m:=by omega
 have jK:0<P.n+P.m:=by omega
 have fC:t<=iP:=bH aS (by decide);have fq:=aD.t;rw[eQ (b:=aA 1) jK,eQ (b:=aA 2) ft]at fq;obtain⟨rs,b4,cB,dh⟩:=aD.r ft;have Dx:=dh a aN;have xc:=bj.r a aN;obtain⟨vs,va,vb,vc,v1,v2,v3⟩:=(aD.v jK).load xc;simp[fq,b4,Dx,aN,v1,v2,xc,-Tm,-Tn];refine aR.of (vs:=[.agg #[va,vb,vc]]) (by simp) (by simp[c5]) (Sf al g0 v3 (aG.v _ xc) (by omega)) ?_;rintro _ H1 ⟨av,rfl⟩;have g1:=av.aL;have t1:=aD.k g0 av;have fO:=t1.t;obtain⟨fK,bd,Lr⟩:=uA (aA 3) P.n;rw[bd,eQ (b:=aA 4) ft]at fO;obtain⟨ms,m1,m2,m3⟩:=t1.m ft;have AI:=m3 a aN;obtain⟨d,aB⟩:=bZa (H1.next);obtain⟨aJ,ee⟩:=bZa (H1.new (.cells (times [.pointer none] P.n) (.n 1)));have aI:=bZv g1 ee;have g2:=aI.aL;have eO:pm.may d=true:=g1.may (by omega);have DC:H0.next<=d:=by rw[aB];exact av.next
 simp[fO,rD g1.tocU (show P.n<=1073741824 by omega) (show 8*P.n<=17179869184 by omega),<-ee,<-aB,aI.some g1 fO,aI.some g1 m1,AI,aN,-To,-Tp];have e0:=av.trans aI;have d0:eV aJ d P.n 0 (mH P T a):=⟨_,by rw[ee,aB];exact dT,G3 _ P.n,λi hi=>absurd hi (od _)⟩;have aHl:∀(H':ah),aA (5+a)≠d:=λ_=>by
  have:=aD.lt g0 aN;omega
 refine gG (σ:=Unit) P.n (λ_ _=>[(0,.pointer (some ⟨aA 0,0,none⟩)),(1,.int .i64 (a:Int)),(5,.int .i64 (T.rows a:Int)),(6,.bool (decide (0<off P T.v (T.rows a)))),(7,.slice (some ⟨d,0,none⟩) P.n P.n),(39,.slice (some ⟨aA (5+a),0,none⟩) P.n P.n)]) (λk _ H'=>K pm H0 H'/\eV H' d P.n k (mH P T a)) () (by decide) (by omega) (by simp) ⟨e0,d0⟩ (by simp) ?_ ?_
 ·rintro k _ bN ag ⟨aQ,d3⟩;have g3:=aQ.aL;obtain⟨cH,bJ,bG,cO⟩:=(aD.k g0 aQ).row a aN;obtain⟨gP,vd,ib⟩:=cO k ag;obtain⟨ds,bn,bh,cu⟩:=d3;obtain⟨eX,d4⟩:=eV.put (m:=H0.next) g3 DC bn bh cu ag ib (k':=k+1) (λi hi=>by omega);obtain⟨aX,rfl,_⟩:=id ib;obtain⟨cp,nZ⟩:=bZa (bN.put d (.cells (ds.set k (.pointer (some ⟨aX,0,none⟩))) (.n 1)));rw[<-nZ]at eX d4;simp[bJ,vd,ag,bn,eO,show k<ds.length by omega,<-nZ,-Tq];refine⟨λJV=>?_,λaHm=>⟨bp.trans aQ eX,d4.congr λj aH=>?_⟩⟩
  ·have aDq:=ib.up eX;refine aR.bZb (vs:=[.pointer (some ⟨aX,0,none⟩)]) (K7 al.toOb eX.aL aDq.of ((aG.M a k aN ag).ca fC)) ?_;rintro r cV ⟨cd,IX⟩;obtain⟨es,cy,dd,dy⟩:=d4.k eX.aL cd;obtain⟨kk,d6⟩:=eV.put (m:=H0.next) cd.aL DC cy dd dy ag IX (k':=k+1) (λi hi=>by omega);obtain⟨rb,rfl,_⟩:=id IX;simp[cy,ag,eO,show k<es.length by omega];refine⟨bp.trans ((bp.trans aQ eX).trans (cd.mono (bH aQ.next eX.next))) kk,d6.congr λj aH=>?_⟩;by_cases e:j=k
   ·subst e;simp[mH,JV]
   ·simp[e]
  ·by_cases e:j=k
   ·subst e;simp[mH];omega
   ·simp[e]
 ·rintro _ bN ⟨aQ,d3⟩;have g3:=aQ.aL;have t3:=aD.k g0 aQ;have G1:∀k,k<P.n->sz (mH P T a k) t:=λk ag=>by
   unfold mH;split
   ·exact vP (aG.M a k aN ag)
   ·exact aG.M a k aN ag
  simp[-Tr,-Ts];refine aR.bZb (vs:=[.pointer (some ⟨aA 0,0,none⟩),.slice (some ⟨d,0,none⟩) P.n P.n]) (acF al g3 au aC t3 (af.ext (aQ.ext g0)) (an.ext (aQ.ext g0)) bj d3.row (td:=t) (by omega) G1) ?_;rintro _ cp ⟨bt,e,rfl,he,rY⟩;have ji:=aQ.trans bt;have yO:=ji.some g0 aD.t;obtain⟨base,cap,rfl,_⟩:=af.at;simp only[<-aC.n]at yO;have DD:H0.next<=e:=bH aQ.next he;have Dw:pm.may e=true:=g0.may DD;by_cases az:P.n<=T.rows a
  ·obtain⟨i,hi⟩:∃i,T.rows a=P.n+i:=⟨T.rows a-P.n,by omega⟩;have DB:i<P.m:=by omega
   have mg:wr .i64 ((P.n:Int)+(i:Int)-(P.n:Int))=(i:Int):=by
    rw[zWc (by omega) (by omega)];omega
   obtain⟨ss,s1,s2,de⟩:=rY;obtain⟨hl,LA⟩:=gv.put (m:=H0.next) bt.aL DD s1 s2 de DB [45,49];obtain⟨cV,r5⟩:=bZa (cp.put e (.cells (ss.set i (aW [45,49])) (.n 1)));rw[<-r5]at hl LA;obtain⟨acG,cS,bL,kF⟩:=id LA;have pO:=λy (h:cp.get (aA 0)=some y)=>show cV.get (aA 0)=some y by
    rw[r5,cq (by have:=g0.lt aD.t;omega)];exact h
   have pO:=pO _ yO;obtain⟨kk,Tt⟩:=gv.put (m:=H0.next) hl.aL DD cS bL kF DB [49];have sH:K pm H0 cV:=bp.trans ji hl;rw[hi];simp[yO];refine⟨λ_=>?_,λh=>by omega⟩;have aDr:cp.put e (.cells (ss.set i (.string ⟨#[45,49]⟩)) (.n 1))=cV:=r5.symm;simp[mg,DB,s1,Dw,show i<ss.length by omega,aDr,pO,cS,show i<acG.length by omega];have acH:(decide (0<off P T.v (T.rows a))=false)->gv cV e P.m (qQ P T a):=λh=>LA.congr λj aH=>by
    rw[qQ,hi];by_cases e:j=i
    ·have h:¬0<off P T.v (T.rows a):=by simpa using h
     rw[hi]at h;simp[e,h]
    ·rw[aU (by omega),aU e]
   have acI:(0<off P T.v (T.rows a))->gv (cV.put e (.cells (acG.set i (aW [49])) (.n 1))) e P.m (qQ P T a):=λh=>Tt.congr λj aH=>by
    rw[qQ,hi];by_cases e:j=i
    ·rw[hi]at h;simp[e,h]
    ·rw[aU (by omega),aU e,aU e]
   rw[hi]at acH acI;refine⟨λh=>?_,λh=>?_⟩
   ·refine bU _ _ _ ?_;simp;exact⟨bp.trans sH kk,DD,acI h⟩
   ·refine bU _ _ _ ?_;simp;exact⟨sH,DD,acH (by simpa using h)⟩
  ·simp[yO];refine⟨λh=>absurd h az,λ_=>?_⟩;refine bU _ _ _ ?_;simp;refine⟨ji,DD,rY.congr (f':=qQ P T a) λi hi=>?_⟩;rw[qQ,aU (by omega)]
end
section
variable{P:cr}{ba:Nat}{aA:Nat->Nat}{lc cc:Value}{T:b8}{c:Nat->Rat}{lp:bD}
def oX(T:b8)(col:Nat)(way:Int):Nat->Nat->List UInt8
 | 0,x=>if x=T.aj col then dB (way:Rat) else[48]
 | i+1,x=>if x=T.rows i then dB (T.M i col*(way:Rat)) else oX T col way i x
theorem aDs(al:hj X)(g0:cl pm H0)(au:lp.ok)(aC:r4 lp P c)(aD:dH P ba H0 aA lc cc T)(af:kI H0 lc lp.aj)(bj:fh P T){t:Nat}(aS:t<=20000)(aG:l4 P T t){col:Nat}(d':col<P.n){way:Int}(kn:way=1∨way=-1):
 Call X pm F.w5 [.pointer (some ⟨aA 0,0,none⟩),.int .i64 (col:Int),.int .i64 way] H0 λr H'=>K pm H0 H'/\∃c,r=.slice (some ⟨c,0,none⟩) P.n P.n/\H0.next<=c/\gv H' c P.n (oX T col way P.m):=by
 refine Call.h6 al.w5 rfl λQ bU=>?_;have dU:=aC.ok au;have j2:=dU.n;have mM:=dU.m;have kA:0<P.n:=by omega
 have fC:t<=iP:=bH aS (by decide);have Tu:sz (way:Rat) 1:=by
  rcases kn with rfl | rfl<;>exact⟨by decide,by decide⟩
 obtain⟨base,cap,rfl,eU⟩:=af.at;have fq:=aD.t;simp only[<-aC.n]at fq;simp[fq,-Tv,-Tw];refine aR.bZb (vs:=[.int .i64 (P.n:Int)]) (acD al g0 (n:=P.n) (by omega)) ?_;rintro _ H1 ⟨av,e,rfl,he,s1⟩;have g1:=av.aL;have eO:∀o,Perm.may ⟨pm.lo,pm.ok,o⟩ e=true:=λo=>jh (bH g0.lo he);have t1:=aD.k g0 av;have fO:=t1.t;simp only[<-aC.n]at fO;rw[eQ (b:=aA 3) kA]at fO;obtain⟨cs,cy,dd,dy⟩:=t1.c kA;have w8:=dy col d';have Lk:=bj.c col d';have loop:∀(aJ:ah) (L:bQ),K pm H0 aJ->gv aJ e P.n (oX T col way 0)->a7 0 L=some (.pointer (some ⟨aA 0,0,none⟩))->a7 1 L=some (.int .i64 (col:Int))->a7 2 L=some (.int .i64 way)->a7 7 L=some (.slice (some ⟨e,0,none⟩) P.n P.n)->wp X pm (.code AT) L aJ [] Q:=by
  intro aJ L aI s2 c0 ck cJ dO;have g2:=aI.aL;have eb:=aI.some g0 aD.t;obtain⟨b9,e2,aDt⟩:=uA (aA 2) P.m;rw[e2]at eb;simp[c0,eb,-Tx];refine gG (σ:=Unit) P.m (λ_ _=>[(0,.pointer (some ⟨aA 0,0,none⟩)),(1,.int .i64 (col:Int)),(2,.int .i64 way),(7,.slice (some ⟨e,0,none⟩) P.n P.n),(38,.slice b9 P.m P.m)]) (λi _ H'=>K pm H0 H'/\gv H' e P.n (oX T col way i)) () (by decide) (by omega) (by simp[c0,ck,cJ,dO]) ⟨aI,s2⟩ (by simp) ?_ ?_
  ·rintro i _ bN hi ⟨aQ,ss,cx,a2,a3⟩;obtain rfl:=aDt (by omega);have g3:=aQ.aL;have t3:=aD.k g0 aQ;obtain⟨rs,b4,cB,dh⟩:=t3.r (by omega);have yI:=dh i hi;have AE:=bj.r i hi;by_cases az:T.rows i<P.n
   ·have AG:=t3.t;rw[eQ (b:=aA 4) (show 0<P.m by omega)]at AG;obtain⟨ms,m1,m2,m3⟩:=t3.m (by omega);have AF:=m3 i hi;obtain⟨cH,bJ,bG,cO⟩:=t3.row i hi;obtain⟨o1,u',n9⟩:=cO col d';have hB:=g3.lt AG;have bn:=g3.lt m1;have bh:=g3.lt bJ;have cu:=g3.lt cx;have k0:=aG.M i col hi d';simp[b4,yI,hi,az];refine eg.of g3.lo rfl ?_;have bE:K pm bN (bN.up 18):=(K.refl g3).up 18;simp[dt,g3.none,g3.fo,AG,m1,AF,hi,bJ,u',d'];refine bZx bE.aL (vs:=[.int .i64 way]) (by simp[g3.none]) (λpm' bS=>sE al.toOb bS (n:=way) (by omega) (by omega)) ?_;rintro qZ ep cv f6;have nq:=cv.res g3;have yb:=bE.trans cv;simp;refine bYf cv.aL (vs:=[o1,qZ]) (by simp[nq]) (λpm' bS=>sF al.toOb bS (n9.up yb).of f6.of (k0.ca fC) (Tu.ca (by decide))) ?_;rintro AH hM dJ f7;have pG:=(K.trans cv dJ).res g3;have Du:=yb.trans dJ;simp;refine bYf dJ.aL (vs:=[AH]) (by simp[pG]) (λpm' bS=>kM bS (Cj al.toOb bS f7.of ((la k0 Tu).ca (bH (show t+1<=30000 by omega) (by decide))))) ?_;rintro _ _-⟨rfl,rfl⟩;have BR:=Du.some g3 cx;obtain⟨u8,Ty⟩:=gv.put (m:=H0.next) dJ.aL he BR a2 a3 az (dB (T.M i col*(way:Rat)));simp[pG,BR,az,eO,show T.rows i<ss.length by omega,dx,dm,hB,bn,bh,cu,eJ,ez,gI];refine⟨bp.trans (aQ.trans Du) u8,Ty.congr λj aH=>?_⟩;rw[oX]
   ·simp[b4,yI,hi,az];refine⟨aQ,ss,cx,a2,λj aH=>?_⟩;rw[a3 j aH,oX,aU (by omega)]
  ·rintro _ bN ⟨aQ,de⟩;simp;refine bU _ _ _ ?_;simp;exact⟨aQ,he,de⟩
 by_cases az:T.aj col<P.n
 ·simp[fO,cy,w8,d',az,-AT,-Tz];refine aR.bZb (vs:=[.int .i64 way]) (sE al.toOb g1 (n:=way) (by omega) (by omega)) ?_;rintro r aJ ⟨aI,an⟩;simp[-AT,-TA];refine aR.bZb (vs:=[r]) (Cj al.toOb aI.aL an.of (Tu.ca (by decide))) ?_;rintro _ aJ ⟨rfl,rfl⟩;obtain⟨ss,cx,a2,a3⟩:=s1.k g1 aI;obtain⟨fu,de⟩:=gv.put (m:=H0.next) aI.aL he cx a2 a3 az (dB (way:Rat));have rH:=eO pm.num;simp[cx,az,rH,show T.aj col<ss.length by omega,-AT];refine loop _ _ (bp.trans (av.trans aI) fu) de (by simp) (by simp) (by simp) (by simp)
 ·simp[fO,cy,w8,d',az,-AT];refine loop _ _ av (s1.congr λj aH=>?_) (by simp) (by simp) (by simp) (by simp);rw[oX,aU (by omega)]
end
def mT(f:Nat->Rat)(c:fb):Nat->Rat:=λj=>if j=c.col.toNat then rd c.v else f j
def nu(l:List fb):Nat->Rat:=l.foldl mT λ_=>0
def bD.aX(lp:bD):cr where
 n:=lp.aj.length
 m:=lp.rows.length
 lo:=λx=>if x<lp.aj.length then gT (lp.col x).low else if(lp.row (x-lp.aj.length)).kind=1 then none else gT (lp.row (x-lp.aj.length)).rhs
 up:=λx=>if x<lp.aj.length then gT (lp.col x).up else if(lp.row (x-lp.aj.length)).kind=3 then none else gT (lp.row (x-lp.aj.length)).rhs
 A:=λi j=>nu (lp.row i).cM j
def bD.cs(lp:bD)(j:Nat):Rat:=rd (lp.col j).cost
def bD.v0(lp:bD)(x:Nat):Rat:=yp (gT (lp.col x).low) (gT (lp.col x).up)
def bD.fA(lp:bD):b8 where
 v:=λx=>if x<lp.aj.length then lp.v0 x else ix (lp.row (x-lp.aj.length)).cM lp.v0
 rows:=λi=>lp.aj.length+i
 aj:=λk=>k
 M:=λi j=>nu (lp.row i).cM j
theorem bD.aDu(lp:bD):r4 lp lp.aX lp.cs:=⟨rfl,rfl,λ_ _=>rfl⟩
def Real(c3 dc dn j:Nat):Prop:=j=0∨(j=1/\0<c3)∨((j=2∨j=4)/\0<dc)∨(j=3/\0<dn)∨(5<=j/\j<5+dc)
structure jL(P:cr)(ba:Nat)(H:ah)(aA:Nat->Nat)(lc cc:Value)(c3 dc dn:Nat)(T:b8):Prop where
 t:H.get (aA 0)=some (.cells [lc,cc,sl (aA 1) c3,sl (aA 2) dc,sl (aA 3) dn,sl (aA 4) dc] (.t tyT))
 v:0<c3->AB H P (aA 1) c3 T.v
 r:0<dc->u9 H (aA 2) dc T.rows
 c:0<dn->u9 H (aA 3) dn T.aj
 m:0<dc->GC H (aA 4) dc P.n aA
 row:∀i,i<dc->eV H (aA (5+i)) P.n P.n (T.M i)
 inj:∀i j,Real c3 dc dn i->Real c3 dc dn j->aA i=aA j->i=j
 ge:∀i,Real c3 dc dn i->ba<=aA i
section
variable{P:cr}{ba:Nat}{aA:Nat->Nat}{lc cc:Value}{T:b8}{c3 dc dn:Nat}
theorem jL.k(h:jL P ba H aA lc cc c3 dc dn T)(g:cl pm H)(k:K pm H H'):jL P ba H' aA lc cc c3 dc dn T where
 t:=k.some g h.t
 v:=λaC=>(h.v aC).ext k λ_ e=>k.some g e
 r:=λaC=>(h.r aC).ext λ_ e=>k.some g e
 c:=λaC=>(h.c aC).ext λ_ e=>k.some g e
 m:=λaC=>(h.m aC).ext λ_ e=>k.some g e
 row:=λi hi=>(h.row i hi).ext k λ_ e=>k.some g e
 inj:=h.inj
 ge:=h.ge
theorem jL.lt(h:jL P ba H aA lc cc c3 dc dn T)(g:cl pm H){j:Nat}(aH:Real c3 dc dn j):aA j<H.next:=by
 rcases aH with rfl | ⟨rfl,U⟩ | ⟨rfl | rfl,U⟩ | ⟨rfl,U⟩ | ⟨U,aa⟩
 ·exact g.lt h.t
 ·obtain⟨_,e,_⟩:=h.v U;exact g.lt e
 ·obtain⟨_,e,_⟩:=h.r U;exact g.lt e
 ·obtain⟨_,e,_⟩:=h.m U;exact g.lt e
 ·obtain⟨_,e,_⟩:=h.c U;exact g.lt e
 ·obtain⟨i,rfl⟩:∃i,j=5+i:=⟨j-5,by omega⟩;obtain⟨_,e,_⟩:=h.row i (by omega);exact g.lt e
theorem jL.full(h:jL P ba H aA lc cc (P.n+P.m) P.m P.n T)(g:cl pm H)(aF:ba<=H.next):∃eC,eC 0=aA 0/\dH P ba H eC lc cc T:=by
 have aG:∀b b' k,(0<k->b'=b)->sl b' k=sl b k:=λb b' k ai=>by
  by_cases e:k=0
  ·subst e;rfl
  ·rw[ai (by omega)]
 obtain⟨R,dD⟩:∃R:Nat->Prop,R=Real (P.n+P.m) P.m P.n:=⟨_,rfl⟩;have aB:∀j,Decidable (R j):=λj=>by rw[dD];unfold Real;exact inferInstance
 obtain⟨eC,ai⟩:∃eC:Nat->Nat,eC=λj=>if R j then aA j else H.next+j:=⟨_,rfl⟩
 have jg:∀j,R j->eC j=aA j:=λj aH=>by rw[ai];simp[aH]
 have fw:R 0:=by rw[dD];exact .inl rfl
 have vN:∀i,i<P.m->R (5+i):=λi hi=>by rw[dD];exact .inr (.inr (.inr (.inr ⟨by omega,by omega⟩)))
 have b4:0<P.n+P.m->R 1:=λh=>by rw[dD];exact .inr (.inl ⟨rfl,h⟩)
 have cB:0<P.m->R 2:=λh=>by rw[dD];exact .inr (.inr (.inl ⟨.inl rfl,h⟩))
 have kf:0<P.m->R 4:=λh=>by rw[dD];exact .inr (.inr (.inl ⟨.inr rfl,h⟩))
 have dh:0<P.n->R 3:=λh=>by rw[dD];exact .inr (.inr (.inr (.inl ⟨rfl,h⟩)))
 refine⟨eC,jg 0 fw,?_,λaC=>?_,λaC=>?_,λaC=>?_,λaC=>?_,λi hi=>?_,λi j hi aH e=>?_,λi hi=>?_⟩
 ·rw[jg 0 fw,aG _ _ _ λh=>jg 1 (b4 h),aG _ _ _ λh=>jg 2 (cB h),aG _ _ _ λh=>jg 3 (dh h),aG _ _ _ λh=>jg 4 (kf h)];exact h.t
 ·rw[jg 1 (b4 aC)];exact h.v aC
 ·rw[jg 2 (cB aC)];exact h.r aC
 ·rw[jg 3 (dh aC)];exact h.c aC
 ·rw[jg 4 (kf aC)];obtain⟨ss,ao,e2,bd⟩:=h.m aC;exact⟨ss,ao,e2,λi hi=>by rw[jg _ (vN i hi)];exact bd i hi⟩
 ·rw[jg _ (vN i hi)];exact h.row i hi
 ·have lt:∀j,R j->aA j<H.next:=λj aH=>h.lt g (dD▸aH);rw[ai]at e;simp only at e;by_cases hi':R i<;>by_cases qG:R j<;>simp only[hi',qG,if_true,if_false]at e
  ·exact h.inj i j (dD▸hi') (dD▸qG) e
  ·have:=lt i hi';omega
  ·have:=lt j qG;omega
  ·omega
 ·rw[ai];simp only;split
  ·rename_i gJ;exact h.ge i (dD▸gJ)
  ·omega
end
def hF(H:ah)(c i:Nat):ah:=if i=0 then H else H.put c .dead
def AU(c i:Nat):List Nat:=if i=0 then[] else[c]
def AV(c i b:Nat):List Nat:=if i=0 then[b] else[c,b]
theorem l8{c i b:Nat}(h:0<i->b≠c):(hF H c i).get b=H.get b:=by
 unfold hF;split
 ·rfl
 ·rw[cq (h (by omega))]
@[simp] theorem yP{c i:Nat}:(hF H c i).next=H.next:=by unfold hF;split<;>rfl
theorem AW{c i b x:Nat}(h:0<i->c≠x)(ai:b≠x):gp (AV c i b) [x]=true:=by
 unfold AV;split
 ·exact kS ai
 ·simp[gp,h (by omega),ai]
theorem LB{c i b x:Nat}(h:0<i->c≠x)(ai:b≠x):gp [x] (AV c i b)=true:=by
 unfold AV;split
 ·exact kS (Ne.symm ai)
 ·simp[gp,Ne.symm (h (by omega)),Ne.symm ai]
theorem LC{c i y x:Nat}(h:0<i->c≠x)(bu:y≠x):gp [x] (y::AU c i)=true:=by
 unfold AU;split
 ·exact kS (Ne.symm bu)
 ·simp[gp,Ne.symm (h (by omega)),Ne.symm bu]
theorem G4{c i s x:Nat}(h:0<i->c<s)(az:x∈AU c i):x<s:=by
 unfold AU at az;split at az
 ·cases az
 ·simp at az;rw[az];exact h (by omega)
theorem bp.hF(u:bp pm n H H'){c i:Nat}{ss:List Value}{z:dI}(h:0<i->n<=c/\H'.get c=some (.cells ss z)):bp pm n H (C.hF H' c i):=by
 unfold C.hF;split
 ·exact u
 ·obtain⟨U,aa⟩:=h (by omega);exact bp.put u U aa (by simp) _
theorem G5{w by' c i lo b:Nat}{okl:List Nat}{ss xs:List Value}(h:0<i->H.get c=some (.cells ss (.n w))/\ss.length=i*w/\Perm.may ⟨lo,okl,some b⟩ c=true)(aD:i=0->ss=[])(az:xs.all fG=true)(hw:1<=w)(hi:i<1000000)(hK:by'<=200):
 (iV w by' (sl c i) xs 1).runT ⟨lo,okl,some b⟩ H=some (sl b (i+1),(hF H c i).put b (.cells (ss++xs) (.n w)),AU c i,AV c i b):=by
 have ai:(i+1)*by'<=17179869184:=bH (r8 _ hK) (by omega);by_cases e:i=0
 ·subst e;rw[aD rfl];unfold iV;simp at ai;simp only[az,sl];simp[Perm.make,Perm.pick,ai,hw,hF,AU,AV];done
 ·obtain⟨U,aa,aq⟩:=h (by omega);have x7:cX ss 0 (i*w)=some ss:=by rw[<-aa];exact abR ss
  rw[eQ (by omega),eQ (by omega)];unfold iV;simp only[az];simp[Perm.make,Perm.pick,ai,U,x7,aq,hw,show ¬(i+1<=i) by omega,show i+1<=17179869184 by omega,hF,AU,AV,e];done
abbrev tyB:Nat:=T.aDv
abbrev tyX:Nat:=T.aDw
section
variable{ba:Nat}{aA:Nat->Nat}{lc cc:Value}{lp:bD}
theorem aDx(_al:hj X)(g0:cl pm H0)(ey:pm.lo<=ba)(aF:ba<=H0.next)(au:lp.ok)(_hm:lp.dP=true){k:Nat}(ag:k<lp.aj.length)(aD:jL lp.aX ba H0 aA lc cc k 0 k lp.fA){b0 bx:Nat}{z:dI}{va vb vc:Value}(_pz:ba<=bx)(hq:∀j,Real k 0 k j->aA j≠bx)
 (az:H0.get bx=some (.cells [va,vb,vc] z)) (_bl:∀o,cj.cells [va,vb,vc] z≠.eE o) (aw:qY H0 lp.aX lp.fA.v k va vb vc) (oA:[va,vb,vc].all fG=true) {L:bQ} (ck:a7 1 L=some (.pointer (some ⟨b0,0,none⟩))) (eT:a7 3 L=some (.pointer (some ⟨aA 0,0,none⟩))) (hP:a7 4 L=some (.int .i64 (k:Int))) (h1:a7 6 L=some (.pointer (some ⟨bx,0,none⟩))) {u18:Value} (r3:a7 18 L=some u18)
 (TB:a7 19 L=some (.int .i64 (lp.aj.length:Int))) (LD:a7 20 L=some (.int .i64 (k:Int))) {Q:c'}
 (fin:∀l' H' eC,bp pm ba H0 H'->(∀b,(∀j,Real k 0 k j->b≠aA j)->b<H0.next->H'.get b=H0.get b)->eC 0=aA 0->jL lp.aX ba H' eC lc cc (k+1) 0 (k+1) lp.fA->Sub [(20,.int .i64 (k:Int)),(19,.int .i64 (lp.aj.length:Int)),(1,.pointer (some ⟨b0,0,none⟩)),(3,.pointer (some ⟨aA 0,0,none⟩)),(18,u18)] l'->Q .normal l' H'):
 wp X pm (.code G6) L H0 [] Q:=by
 have j2:=au.c;obtain⟨s,aG⟩:=bZa (H0.next);have pP:=g0.none;have yQ:=g0.fo;rw[<-aG]at pP yQ;have fq:=aD.t;have fw:Real k 0 k 0:=.inl rfl;have b4:0<k->Real k 0 k 1:=λh=>.inr (.inl ⟨rfl,h⟩);have dh:0<k->Real k 0 k 3:=λh=>.inr (.inr (.inr (.inl ⟨rfl,h⟩)));have ir:=aD.lt g0 fw;have lv:=λh=>aD.lt g0 (b4 h);have DE:=λh=>aD.lt g0 (dh h);have aHn:=g0.lt az;have yR:aA 0<s:=by omega
 have LF:bx<s:=by omega
 have AX:0<k->aA 0≠aA 1:=λh e=>absurd (aD.inj 0 1 fw (b4 h) e) (by decide);have aDy:0<k->aA 0≠aA 3:=λh e=>absurd (aD.inj 0 3 fw (dh h) e) (by decide);have DA:0<k->aA 1≠aA 3:=λh e=>absurd (aD.inj 1 3 (b4 h) (dh h) e) (by decide);have aHo:=hq 0 fw;have aDz:=λh=>hq 1 (b4 h);have aHp:=λh=>hq 3 (dh h);have eO:∀o b,ba<=b->Perm.may ⟨pm.lo,pm.ok,o⟩ b=true:=λo b h=>jh (bH ey h);obtain⟨ga,mF,iy⟩:∃ga,(0<k->H0.get (aA 1)=some (.cells ga (.n 3))/\ga.length=k*3/\∀x,x<k->∃p q c,ga[x*3]? = some p/\ga[x*3+1]? = some q/\ga[x*3+2]? = some c/\qY H0 lp.aX lp.fA.v x p q c)/\(k=0->ga=[]):=by
  by_cases e:k=0
  ·exact⟨[],λh=>by omega,λ_=>rfl⟩
  ·obtain⟨ss,U⟩:=aD.v (by omega);exact⟨ss,λ_=>U,λh=>absurd h e⟩
 obtain⟨vh,hW,kj⟩:∃vh,(0<k->H0.get (aA 3)=some (.cells vh (.n 1))/\vh.length=k/\∀i,i<k->vh[i]? = some (.int .i64 (lp.fA.aj i:Int)))/\(k=0->vh=[]):=by
  by_cases e:k=0
  ·exact⟨[],λh=>by omega,λ_=>rfl⟩
  ·obtain⟨ss,U⟩:=aD.c (by omega);exact⟨ss,λ_=>U,λh=>absurd h e⟩
 simp;refine eg.of g0.lo rfl ?_;obtain⟨fL,fc⟩:=bZa ((H0.up 22).put (s+7) (.cells [va,vb,vc] (.n 3)));have LG:K pm H0 (H0.up 22):=(K.refl g0).up 22;have hD:K pm H0 fL:=by rw[fc];exact bp.fill LG (by omega) (by show H0.get _=none;exact pP 7) (by show s+7<H0.next+22;omega) _
 have oP:∀j,j≠7->fL.get (s+j)=none:=λj aH=>by rw[fc,cq (by omega)];exact pP j
 have TC:fL.get (s+7)=some (.cells [va,vb,vc] (.n 3)):=by rw[fc];exact dX
 have ao:=G5 (H:=fL) (w:=3) (by':=24) (c:=aA 1) (i:=k) (lo:=pm.lo) (okl:=pm.ok) (b:=s+8) (ss:=ga) (xs:=[va,vb,vc]) (λh=>⟨hD.some g0 (mF h).1,(mF h).2.1,eO _ _ (aD.ge 1 (b4 h))⟩) iy oA (by decide) (by omega) (by decide);obtain⟨fV,fg⟩:=bZa ((hF fL (aA 1) k).put (s+8) (.cells (ga++[va,vb,vc]) (.n 3)));rw[<-fg]at ao;have rL:∀j,8<j->fV.get (s+j)=none:=λj aH=>by rw[fg,cq (by omega),l8 (λh=>by have:=lv h;omega)];exact oP j (by omega)
 have DF:∀b,b<s->(0<k->b≠aA 1)->fV.get b=H0.get b:=λb ai gN=>by
  rw[fg,cq (by omega),l8 gN,fc,cq (by omega)];rfl
 have TD:=(DF (aA 0) (by omega) AX).trans fq;obtain⟨fW,fp⟩:=bZa (fV.put (s+14) (.cells [.int .i64 (k:Int)] (.n 1)));have uy:∀j,14<j->fW.get (s+j)=none:=λj aH=>by rw[fp,cq (by omega)];exact rL j (by omega)
 have TE:fW.get (s+14)=some (.cells [.int .i64 (k:Int)] (.n 1)):=by rw[fp];exact dX
 have DG:∀b,b<s->(0<k->b≠aA 1)->fW.get b=H0.get b:=λb ai gN=>by rw[fp,cq (by omega)];exact DF b ai gN
 have bd:=G5 (H:=fW) (w:=1) (by':=8) (c:=aA 3) (i:=k) (lo:=pm.lo) (okl:=pm.ok) (b:=s+15) (ss:=vh) (xs:=[.int .i64 (k:Int)]) (λh=>⟨(DG _ (by have:=DE h;omega) λh=>(DA h).symm).trans (hW h).1,by simpa using(hW h).2.1,eO _ _ (aD.ge 3 (dh h))⟩) kj (by rfl) (by decide) (by omega) (by decide);obtain⟨oQ,km⟩:=bZa ((hF fW (aA 3) k).put (s+15) (.cells (vh++[.int .i64 (k:Int)]) (.n 1)));rw[<-km]at bd;have DH:∀j,15<j->oQ.get (s+j)=none:=λj aH=>by rw[km,cq (by omega),l8 (λh=>by have:=DE h;omega)];exact uy j (by omega)
 have AY:∀b,b<s->(0<k->b≠aA 1)->(0<k->b≠aA 3)->oQ.get b=H0.get b:=λb ai gN C9=>by
  rw[km,cq (by omega),l8 C9];exact DG b ai gN
 have LH:=(AY (aA 0) (by omega) AX aDy).trans fq;obtain⟨r6,nB⟩:=bZa (oQ.put (aA 0) (.cells [lc,cc,sl (s+8) (k+1),sl (aA 2) 0,sl (aA 3) k,sl (aA 4) 0] (.t tyT)));have G7:∀j,15<j->r6.get (s+j)=none:=λj aH=>by rw[nB,cq (by omega)];exact DH j aH
 have acJ:r6.get (aA 0)=some (.cells [lc,cc,sl (s+8) (k+1),sl (aA 2) 0,sl (aA 3) k,sl (aA 4) 0] (.t tyT)):=by rw[nB];exact dX
 obtain⟨tc,pQ⟩:=bZa (r6.put (aA 0) (.cells [lc,cc,sl (s+8) (k+1),sl (aA 2) 0,sl (s+15) (k+1),sl (aA 4) 0] (.t tyT)));have TF:=λo=>eO o _ (aD.ge 0 fw);have oN:∀b i,fG (sl b i)=true:=λb i=>by unfold sl;split<;>rfl
 have oO:∀b i,(sl b i).cells=#[sl b i]:=λb i=>by unfold sl;split<;>rfl
 simp[dt,<-aG,pP,yQ,eT,hP,h1,fq,az,cX,c5,Perm.make,Perm.pick,<-fc,oP,TC,ao,rL,TD,<-fp,uy,TE,bd,DH,LH,TF,oN,oO,<-nB,G7,acJ,<-pQ,dx,dm,ez,kS (show s+7≠aA 0 by omega),kS (show s+14≠aA 0 by omega),kS (show s+14≠bx by omega),AW (c:=aA 1) (i:=k) (b:=s+8) (x:=aA 0) (λh=>(AX h).symm) (by omega),LB (c:=aA 1) (i:=k) (b:=s+8) (x:=s+14) (λh=>by have:=lv h;omega) (by omega),LC (c:=aA 1) (i:=k) (y:=s+7) (x:=s+14) (λh=>by have:=lv h;omega) (by omega),yR,LF];refine⟨⟨λx az=>.inl (.inl (.inl (G4 (λh=>by have:=lv h;omega) az))),λx az=>.inl (.inl (.inl (G4 (λh=>by have:=DE h;omega) az)))⟩,?_⟩;have fQ:bp pm ba H0 fL:=hD.mono aF;have fm:bp pm ba H0 fV:=by
  rw[fg];exact bp.fill (bp.hF fQ λh=>⟨aD.ge 1 (b4 h),hD.some g0 (mF h).1⟩) (by omega) (by rw[l8 (λh=>by have:=lv h;omega)];exact oP 8 (by decide)) (by rw[yP];have:=LG.next;have:=hD.next;show s+8<fL.next;rw[fc];show s+8<H0.next+22;omega) _
 have TG:fL.next=s+22:=by rw[fc];show H0.next+22=_;omega
 have TH:fV.next=s+22:=by rw[fg,TI,yP];exact TG
 have fu:bp pm ba H0 fW:=by rw[fp];exact bp.fill fm (by omega) (rL 14 (by decide)) (by omega) _
 have acK:fW.next=s+22:=by rw[fp];exact TH
 have eX:bp pm ba H0 oQ:=by
  rw[km];exact bp.fill (bp.hF fu λh=>⟨aD.ge 3 (dh h),(DG _ (by have:=DE h;omega) λh=>(DA h).symm).trans (hW h).1⟩) (by omega) (by rw[l8 (λh=>by have:=DE h;omega)];exact uy 15 (by decide)) (by rw[yP];omega) _
 have hl:bp pm ba H0 r6:=by rw[nB];exact bp.put eX (aD.ge 0 fw) LH (by simp) _
 have kk:bp pm ba H0 tc:=by rw[pQ];exact bp.put hl (aD.ge 0 fw) acJ (by simp) _
 obtain⟨eC,eP⟩:∃eC:Nat->Nat,eC=λj=>if j=1 then s+8 else if j=3 then s+15 else aA j:=⟨_,rfl⟩
 have b0:eC 0=aA 0:=by rw[eP];rfl
 have cR:eC 1=s+8:=by rw[eP];rfl
 have fK:eC 3=s+15:=by rw[eP];rfl
 have LI:∀b,b<s->b≠aA 0->(0<k->b≠aA 1)->(0<k->b≠aA 3)->tc.get b=H0.get b:=λb ai gU U aq=>by
  rw[pQ,cq gU,nB,cq gU];exact AY b ai U aq
 have aDA:tc.get (s+8)=some (.cells (ga++[va,vb,vc]) (.n 3)):=by
  rw[pQ,cq (by omega),nB,cq (by omega),km,cq (by omega),l8 (λh=>by have:=DE h;omega),fp,cq (by omega),fg];exact dX
 have aDB:tc.get (s+15)=some (.cells (vh++[.int .i64 (k:Int)]) (.n 1)):=by
  rw[pQ,cq (by omega),nB,cq (by omega),km];exact dX
 have TJ:ga.length=k*3:=by
  by_cases e:k=0
  ·rw[iy e,e];rfl
  ·exact(mF (by omega)).2.1
 have d':vh.length=k:=by
  by_cases e:k=0
  ·rw[kj e,e];rfl
  ·exact(hW (by omega)).2.1
 refine fin _ tc eC kk (λb ai bO=>LI b (by omega) (ai 0 fw) (λh=>ai 1 (b4 h)) λh=>ai 3 (dh h)) b0 ⟨?_,λ_=>?_,λh=>absurd h (Nat.lt_irrefl 0),λ_=>?_,λh=>absurd h (Nat.lt_irrefl 0),λi hi=>absurd hi (od _),λi j hi aH e=>?_,λi hi=>?_⟩ (by simp[ck,eT,r3,TB,LD])
 ·rw[b0,cR,fK,pQ,dX];rfl
 ·rw[cR];refine⟨_,aDA,by simp[TJ];omega,λx az=>?_⟩;by_cases e:x=k
  ·subst e;refine⟨va,vb,vc,?_,?_,?_,aw.k kk⟩
   ·rw[lA (by omega),show x*3-ga.length=0 by omega];rfl
   ·rw[lA (by omega),show x*3+1-ga.length=1 by omega];rfl
   ·rw[lA (by omega),show x*3+2-ga.length=2 by omega];rfl
  ·obtain⟨p,q,c,ao,e2,bd,b1⟩:=(mF (by omega)).2.2 x (by omega);exact⟨p,q,c,by rw[lB (by omega)];exact ao,by rw[lB (by omega)];exact e2,by rw[lB (by omega)];exact bd,b1.k kk⟩
 ·rw[fK];refine⟨_,aDB,by simp[d'],λi hi=>?_⟩;by_cases e:i=k
  ·subst e;rw[lA (by omega),show i-vh.length=0 by omega];rfl
  ·rw[lB (by omega)];exact(hW (by omega)).2.2 i (by omega)
 ·have aa:∀j,Real (k+1) 0 (k+1) j->j=0∨j=1∨j=3:=λj aH=>by unfold Real at aH;omega
  rcases aa i hi with rfl | rfl | rfl<;>rcases aa j aH with rfl | rfl | rfl<;>simp only[b0,cR,fK]at e<;>omega
 ·have aa:i=0∨i=1∨i=3:=by unfold Real at hi;omega
  have:=aD.ge 0 fw
  rcases aa with rfl | rfl | rfl
  ·rw[b0];exact this
  ·rw[cR];omega
  ·rw[fK];omega
end
abbrev tyC:Nat:=T.aDC
section
variable{ba:Nat}{aA:Nat->Nat}{lc cc:Value}{lp:bD}
theorem Ag{k:Nat}(ag:k<lp.aj.length):lp.aX.lo k=gT (lp.col k).low:=bm ag
theorem Ah{k:Nat}(ag:k<lp.aj.length):lp.aX.up k=gT (lp.col k).up:=bm ag
theorem ZU{k:Nat}(ag:k<lp.aj.length):lp.fA.v k=yp (gT (lp.col k).low) (gT (lp.col k).up):=bm ag
theorem aDD{c:eu}(h:nf c=true):(c.low≠[]->isNum c.low=true)/\(c.up≠[]->isNum c.up=true):=by
 obtain⟨U,aa⟩:=Yk c h;exact⟨λe=>U (by simpa using e),λe=>aa (by simpa using e)⟩
theorem aDE(al:hj X)(g0:cl pm H0)(ey:pm.lo<=ba)(aF:ba<=H0.next)(au:lp.ok)(hm:lp.dP=true){k:Nat}(ag:k<lp.aj.length)(aD:jL lp.aX ba H0 aA lc cc k 0 k lp.fA){b0:Nat}{base:Option Addr}{cap:Nat}(af:kI H0 (.slice base lp.aj.length cap) lp.aj){L:bQ}(ck:a7 1 L=some (.pointer (some ⟨b0,0,none⟩)))(eT:a7 3 L=some (.pointer (some ⟨aA 0,0,none⟩)))
 (r3:a7 18 L=some (.slice base lp.aj.length cap)) (TB:a7 19 L=some (.int .i64 (lp.aj.length:Int))) (LD:a7 20 L=some (.int .i64 (k:Int))) {Q:c'}
 (fin:∀l' H' eC,bp pm ba H0 H'->eC 0=aA 0->jL lp.aX ba H' eC lc cc (k+1) 0 (k+1) lp.fA->Sub [(20,.int .i64 (k:Int)),(19,.int .i64 (lp.aj.length:Int)),(1,.pointer (some ⟨b0,0,none⟩)),(3,.pointer (some ⟨aA 0,0,none⟩)),(18,.slice base lp.aj.length cap)] l'->Q .normal l' H'):
 wp X pm (.code (.seq (.aT [m 22 20,o 23 (.ho 5 (.t 18) (.t 20)),o 24 (.load true 5 (.t 23)),o 5 (.alloc tyC [(.string ⟨#[]⟩),(.string ⟨#[]⟩),(.string ⟨#[]⟩),(.string ⟨#[]⟩),(.bool false)]),m 4 22,⟨none,none,.store 5 (.t 5) (.t 24)⟩]) TK)) L H0 [] Q:=by
 obtain⟨_,_,e,eU⟩:=af.at;cases e;obtain⟨b',off,kO,row,cs,rfl,e2,bd,b1,cQ,cK,rfl⟩:=eU k ag;have lb:=fR cK;have lZ:=bD.zB cK;have zZ:=Ci hm lb;obtain⟨oJ,qh⟩:=aDD zZ;obtain⟨n8,z2,z3⟩:=au.cs cQ lb;obtain⟨H1,cw⟩:=bZa ((H0.new (.cells [.string ⟨#[]⟩,.string ⟨#[]⟩,.string ⟨#[]⟩,.string ⟨#[]⟩,.bool false] (.t tyC))).put H0.next (.cells [aW cQ.name,aW cQ.low,aW cQ.up,aW cQ.cost,.bool cQ.int] (.t tyC)));have av:K pm H0 H1:=by rw[cw];exact mv g0 _ _ (by simp)
 have h4:H1.get H0.next=some (.cells [aW cQ.name,aW cQ.low,aW cQ.up,aW cQ.cost,.bool cQ.int] (.t tyC)):=by rw[cw];exact dX
 have g1:=av.aL;have aHq:=g1.lt h4;have eO:pm.may H0.next=true:=g0.may (bR _);simp[r3,LD,ag,e2,bd,b1,g0.pick,g0.make,eO,ptr,c5,eu.cells,<-cw,-DI];refine eg.of g1.lo rfl ?_;obtain⟨s,aG⟩:=bZa (H1.next);have pP:=g1.none;have yQ:=g1.fo;rw[<-aG]at pP yQ;simp[dt,<-aG,pP,yQ,h4,Perm.make,Perm.pick,-DI];obtain⟨A,nd⟩:=bZa ((H1.up 9).put (s+4) (.cells [.pointer none,.pointer none,.pointer none] (.t tyX)));have Cx:K pm H1 A:=by rw[nd];exact bp.fill ((K.refl g1).up 9) (by omega) (pP 4) (by show s+4<H1.next+9;omega) _
 have aDF:A.get (s+4)=some (.cells [.pointer none,.pointer none,.pointer none] (.t tyX)):=by rw[nd];exact dX
 have acL:∀j,j≠4->A.get (s+j)=none:=λj aH=>by rw[nd,cq (by omega)];exact pP j
 have aHr:A.next=s+9:=by rw[nd];show H1.next+9=_;omega
 have aDG:(H1.up 9).put (s+4) (.cells [.pointer none,.pointer none,.pointer none] (.t tyX))=A:=nd.symm;rw[aDG];have bT:∀{aJ:ah},K pm A aJ->∀j,j≠4->j<9->aJ.get (s+j)=none:=λk j aH qG=>(k.get _ (by omega)).trans (acL j aH);have nn:=acL 5 (by decide);refine GA Cx.aL (vs:=[aW cQ.low]) nn (by simp) (by simp) rfl (λpm' bS=>Dt al bS (by omega) oJ) ?_;rintro bJ bN aQ f1;have aDH:=bT aQ 6 (by decide) (by decide);simp[-DI];refine GA aQ.aL (vs:=[aW cQ.up]) aDH (by simp) (by simp) rfl (λpm' bS=>Dt al bS (by omega) qh) ?_;rintro bG cp bt f2;have ji:=K.trans aQ bt;have Jy:=bT ji 7 (by decide) (by decide);have Jz:=bT ji 8 (by decide) (by decide);have uk:=f1.up bt;obtain⟨bn,rfl⟩:=f1.ptr;obtain⟨bh,rfl⟩:=f2.ptr;have mw:=ji.some Cx.aL aDF;have aDI:=λo=>jh (ok:=pm.ok) (o:=o) (b:=s+4) (bH g1.lo (show H1.next<=s+4 by omega));have aDJ:H0.next<s:=by omega
 simp[Jy,Jz,mw,aDI,ptr,c5,dx,dm,aDJ,kS (show s+4≠H0.next by omega),eJ,ez,qs,-DI];obtain⟨cV,r5⟩:=bZa (cp.put (s+4) (.cells [.pointer bn,.pointer bh,.pointer none] (.t tyX)));have hl:bp pm H1.next cp cV:=by rw[r5];exact bp.put (bp.refl ji.aL |>.mono (bR _)) (by omega) mw (by simp) _
 have g5:=hl.aL;have qH:cV.get (s+4)=some (.cells [.pointer bn,.pointer bh,.pointer none] (.t tyX)):=by rw[r5];exact dX
 have aDK:K pm H1 cV:=bp.trans (Cx.trans ji) hl;rw[<-r5];have KE:=uk.up hl;have acM:=f2.up hl;simp[qH,cX,c5,-TL,-G6];refine aR.bZb (vs:=[.agg #[.pointer bn,.pointer bh,.pointer none]]) (aCr al g5 KE acM rfl) ?_;rintro r ep ⟨cv,an⟩;have g6:=cv.aL;have qA:=cv.some g5 qH;obtain⟨rb,rfl,n6⟩:=id an;have aDL:=K.trans aDK cv;have G8:=K.trans av aDL;have Ga:=jh (ok:=pm.ok) (o:=pm.num) (b:=s+4) (bH g1.lo (show H1.next<=s+4 by omega));obtain⟨hM,TM⟩:=bZa (ep.put (s+4) (.cells [.pointer bn,.pointer bh,.pointer (some ⟨rb,0,none⟩)] (.t tyX)));have tb:bp pm H0.next ep hM:=by rw[TM];exact bp.put (.refl g6) (by have:=av.next;omega) qA (by simp) _
 have wv:K pm H0 hM:=bp.trans G8 tb;have aDM:hM.get (s+4)=some (.cells [.pointer bn,.pointer bh,.pointer (some ⟨rb,0,none⟩)] (.t tyX)):=by rw[TM];exact dX
 simp[qA,Ga,<-TM,-G6];have t7:=aD.k g0 wv;have bO:=λj aH=>aD.lt g0 (j:=j) aH;have n1:=av.next;refine aDx al wv.aL ey (bH aF wv.next) au hm ag t7 (b0:=b0) (bx:=s+4) (z:=.t tyX) (va:=.pointer bn) (vb:=.pointer bh) (vc:=.pointer (some ⟨rb,0,none⟩)) (u18:=.slice (some ⟨b',off,none⟩) lp.aj.length cap) (by omega) (λj aH e=>by have:=bO j aH;omega) aDM (by simp) ⟨by rw[Ag ag,lZ];exact(KE.up cv).up tb,by rw[Ah ag,lZ];exact(acM.up cv).up tb,by rw[ZU ag,lZ];exact an.up tb⟩ rfl (by simp[ck]) (by simp[eT]) (by simp) (by simp) (by simp[r3]) (by simp[TB]) (by simp[LD]) λl' H' eC u _ DJ ra ku=>?_;exact fin l' H' eC ((wv.mono aF).trans u) DJ ra ku
end
section
variable{ba:Nat}{aA:Nat->Nat}{lc cc:Value}{lp:bD}{k1:Option Addr}{k2:Nat}
def vi(aA:Nat->Nat)(s i rb:Nat)(j:Nat):Nat:=if j=1 then s+16 else if j=2 then s+27 else if j=4 then s+9 else if j=5+i then rb else aA j
theorem aDN(g0:cl pm H0){i c3 s:Nat}(ql:c3=lp.aj.length+i)(aG:s=H0.next)(aF:ba<=H0.next)(aD:jL lp.aX ba H0 aA (.slice k1 lp.aj.length k2) cc c3 i lp.aj.length lp.fA){bx rb:Nat}{va vb vc:Value}(n6:ba<=rb)(hq:∀j,Real c3 i lp.aj.length j->aA j≠bx/\aA j≠rb)(aw:qY H0 lp.aX lp.fA.v (lp.aj.length+i) va vb vc)(nU:eV H0 rb lp.aj.length lp.aj.length (lp.fA.M i))
 {ga nC n':List Value} (mF:0<c3->H0.get (aA 1)=some (.cells ga (.n 3))/\ga.length=c3*3/\∀x,x<c3->∃p q c,ga[x*3]? = some p/\ga[x*3+1]? = some q/\ga[x*3+2]? = some c/\qY H0 lp.aX lp.fA.v x p q c) (iy:c3=0->ga=[]) (ot:0<i->H0.get (aA 2)=some (.cells nC (.n 1))/\nC.length=i/\∀j,j<i->nC[j]? = some (.int .i64 (lp.fA.rows j:Int))) (rr:i=0->nC=[])
 (AZ:0<i->H0.get (aA 4)=some (.cells n' (.n 1))/\n'.length=i/\∀j,j<i->n'[j]? = some (.slice (some ⟨aA (5+j),0,none⟩) lp.aj.length lp.aj.length)) (ft:i=0->n'=[]) {o2:ah} (xg:bp pm ba H0 o2)
 (aDO:o2.get (aA 0)=some (.cells [.slice k1 lp.aj.length k2,cc,sl (s+16) (c3+1),sl (s+27) (i+1),sl (aA 3) lp.aj.length,sl (s+9) (i+1)] (.t tyT))) (LJ:o2.get (s+9)=some (.cells (n'++[.slice (some ⟨rb,0,none⟩) lp.aj.length lp.aj.length]) (.n 1))) (TN:o2.get (s+16)=some (.cells (ga++[va,vb,vc]) (.n 3))) (TO:o2.get (s+27)=some (.cells (nC++[.int .i64 ((lp.aj.length:Int)+(i:Int))]) (.n 1)))
 (G9:∀b,b<s->b≠aA 0->(0<i->b≠aA 4)->(0<c3->b≠aA 1)->(0<i->b≠aA 2)->o2.get b=H0.get b):vi aA s i rb 0=aA 0/\jL lp.aX ba o2 (vi aA s i rb) (.slice k1 lp.aj.length k2) cc (c3+1) (i+1) lp.aj.length lp.fA:=by
 have fw:Real c3 i lp.aj.length 0:=.inl rfl;have b4:0<c3->Real c3 i lp.aj.length 1:=λh=>.inr (.inl ⟨rfl,h⟩);have cB:0<i->Real c3 i lp.aj.length 2:=λh=>.inr (.inr (.inl ⟨.inl rfl,h⟩));have kf:0<i->Real c3 i lp.aj.length 4:=λh=>.inr (.inr (.inl ⟨.inr rfl,h⟩));have yR:aA 0<s:=by have:=aD.lt g0 fw;omega
 have DK:=aD.ge 0 fw;have dh:0<lp.aj.length->Real c3 i lp.aj.length 3:=λh=>.inr (.inr (.inr (.inl ⟨rfl,h⟩)));have vN:∀j,j<i->Real c3 i lp.aj.length (5+j):=λj h=>.inr (.inr (.inr (.inr ⟨by omega,by omega⟩)));have aDP:rb<s:=by
  obtain⟨_,e,_⟩:=nU;have:=g0.lt e;omega
 have yS:∀a b,Real c3 i lp.aj.length a->Real c3 i lp.aj.length b->a≠b->aA a≠aA b:=λa b aN ai nQ e=>nQ (aD.inj a b aN ai e);obtain⟨eC,eP⟩:∃eC:Nat->Nat,eC=vi aA s i rb:=⟨_,rfl⟩;rw[<-eP];have DJ:eC 0=aA 0:=by rw[eP,vi];simp;intro h;omega
 have cR:eC 1=s+16:=by rw[eP,vi];simp
 have b9:eC 2=s+27:=by rw[eP,vi];simp
 have fK:eC 3=aA 3:=by rw[eP,vi];simp;intro h;omega
 have rQ:eC 4=s+9:=by rw[eP,vi];simp
 have uX:∀j,j<i->eC (5+j)=aA (5+j):=λj aH=>by
  rw[eP,vi];simp only[show ¬5+j=1 by omega,show ¬5+j=2 by omega,show ¬5+j=4 by omega,show ¬5+j=5+i by omega,if_false]
 have LK:eC (5+i)=rb:=by
  rw[eP,vi];simp only[show ¬5+i=1 by omega,show ¬5+i=2 by omega,show ¬5+i=4 by omega,if_false,if_true]
 have TJ:ga.length=c3*3:=by
  by_cases e:c3=0
  ·rw[iy e,e];rfl
  ·exact(mF (by omega)).2.1
 have ld:nC.length=i:=by
  by_cases e:i=0
  ·rw[rr e,e];rfl
  ·exact(ot (by omega)).2.1
 have IA:n'.length=i:=by
  by_cases e:i=0
  ·rw[ft e,e];rfl
  ·exact(AZ (by omega)).2.1
 refine⟨DJ,?_,λ_=>?_,λ_=>?_,λaC=>?_,λ_=>?_,λj aH=>?_,λa b aN ai e=>?_,λa aN=>?_⟩
 ·rw[DJ,cR,b9,fK,rQ];exact aDO
 ·rw[cR];refine⟨_,TN,by simp[TJ];omega,λx az=>?_⟩;by_cases e:x=c3
  ·subst e;refine⟨va,vb,vc,?_,?_,?_,?_⟩
   ·rw[lA (by omega),show x*3-ga.length=0 by omega];rfl
   ·rw[lA (by omega),show x*3+1-ga.length=1 by omega];rfl
   ·rw[lA (by omega),show x*3+2-ga.length=2 by omega];rfl
   ·rw[ql];exact aw.k xg
  ·obtain⟨p,q,c,ao,e2,bd,b1⟩:=(mF (by omega)).2.2 x (by omega);exact⟨p,q,c,by rw[lB (by omega)];exact ao,by rw[lB (by omega)];exact e2,by rw[lB (by omega)];exact bd,b1.k xg⟩
 ·rw[b9];refine⟨_,TO,by simp[ld],λj aH=>?_⟩;by_cases e:j=i
  ·subst e;rw[lA (by omega),show j-nC.length=0 by omega];show some (Value.int .i64 ((lp.aj.length:Int)+(j:Int)))=some (.int .i64 ((lp.aj.length+j:Nat):Int));simp
  ·rw[lB (by omega)];exact(ot (by omega)).2.2 j (by omega)
 ·rw[fK];refine(aD.c aC).ext λy e=>(G9 _ (by have:=aD.lt g0 (dh aC);omega) (yS 3 0 (dh aC) fw (by decide)) (λh=>yS 3 4 (dh aC) (kf h) (by decide)) (λh=>yS 3 1 (dh aC) (b4 h) (by decide)) λh=>yS 3 2 (dh aC) (cB h) (by decide)).trans e
 ·rw[rQ];refine⟨_,LJ,by simp[IA],λj aH=>?_⟩;by_cases e:j=i
  ·subst e;rw[lA (by omega),show j-n'.length=0 by omega,LK];rfl
  ·rw[lB (by omega),uX j (by omega)];exact(AZ (by omega)).2.2 j (by omega)
 ·by_cases e:j=i
  ·subst e;rw[LK];exact nU.ext xg λy e=>(G9 rb aDP (hq 0 fw).2.symm (λh=>(hq 4 (kf h)).2.symm) (λh=>(hq 1 (b4 h)).2.symm) λh=>(hq 2 (cB h)).2.symm).trans e
  ·have aH:j<i:=by omega
   rw[uX j aH];have cg:=vN j aH;exact(aD.row j aH).ext xg λy e=>(G9 _ (by have:=aD.lt g0 cg;omega) (yS _ _ cg fw (by omega)) (λh=>yS _ _ cg (kf h) (by omega)) (λh=>yS _ _ cg (b4 h) (by omega)) λh=>yS _ _ cg (cB h) (by omega)).trans e
 ·have cls:∀a,Real (c3+1) (i+1) lp.aj.length a->(a=1/\eC a=s+16)∨(a=2/\eC a=s+27)∨(a=4/\eC a=s+9)∨(a=5+i/\eC a=rb)∨(Real c3 i lp.aj.length a/\eC a=aA a/\aA a<s/\aA a≠rb/\a≠1/\a≠2/\a≠4/\a≠5+i):=by
   intro a aN
   rcases aN with rfl | ⟨rfl,_⟩ | ⟨rfl | rfl,_⟩ | ⟨rfl,h⟩ | ⟨U,aa⟩
   ·exact .inr (.inr (.inr (.inr ⟨fw,DJ,yR,(hq 0 fw).2,by omega,by omega,by omega,by omega⟩)))
   ·exact .inl ⟨rfl,cR⟩
   ·exact .inr (.inl ⟨rfl,b9⟩)
   ·exact .inr (.inr (.inl ⟨rfl,rQ⟩))
   ·exact .inr (.inr (.inr (.inr ⟨dh h,fK,by have:=aD.lt g0 (dh h);omega,(hq 3 (dh h)).2,by omega,by omega,by omega,by omega⟩)))
   ·obtain⟨j,rfl⟩:∃j,a=5+j:=⟨a-5,by omega⟩;by_cases e:j=i
    ·subst e;exact .inr (.inr (.inr (.inl ⟨rfl,LK⟩)))
    ·have cg:=vN j (by omega);exact .inr (.inr (.inr (.inr ⟨cg,uX j (by omega),by have:=aD.lt g0 cg;omega,(hq _ cg).2,by omega,by omega,by omega,by omega⟩)))
  rcases cls a aN with⟨rfl,x⟩ | ⟨rfl,x⟩ | ⟨rfl,x⟩ | ⟨rfl,x⟩ | ⟨sc,x,df,dW,_⟩<;>rcases cls b ai with⟨rfl,y⟩ | ⟨rfl,y⟩ | ⟨rfl,y⟩ | ⟨rfl,y⟩ | ⟨tv,y,s6,iL,_⟩<;>first | rfl | (rw[x,y]at e;first | omega | exact aD.inj a b sc tv e)
 ·rcases aN with rfl | ⟨rfl,_⟩ | ⟨rfl | rfl,_⟩ | ⟨rfl,h⟩ | ⟨U,aa⟩
  ·rw[DJ];exact DK
  ·rw[cR];omega
  ·rw[b9];omega
  ·rw[rQ];omega
  ·rw[fK];exact aD.ge 3 (dh h)
  ·obtain⟨j,rfl⟩:∃j,a=5+j:=⟨a-5,by omega⟩;by_cases e:j=i
   ·subst e;rw[LK];exact n6
   ·rw[uX j (by omega)];exact aD.ge _ (vN j (by omega))
theorem aDQ(g0:cl pm H0)(ey:pm.lo<=ba)(aF:ba<=H0.next)(au:lp.ok){i:Nat}(hi:i<lp.rows.length)(aD:jL lp.aX ba H0 aA (.slice k1 lp.aj.length k2) cc (lp.aj.length+i) i lp.aj.length lp.fA){b0 bx rb:Nat}{z zb:dI}{va vb vc:Value}(pz:ba<=bx)(n6:ba<=rb)(_wB:bx≠rb)(hq:∀j,Real (lp.aj.length+i) i lp.aj.length j->aA j≠bx/\aA j≠rb)
 (az:H0.get bx=some (.cells [va,vb,vc] z)) (fE:H0.get b0=some (.cells [.slice k1 lp.aj.length k2,cc] zb)) (LL:b0<ba) (aw:qY H0 lp.aX lp.fA.v (lp.aj.length+i) va vb vc) (oA:[va,vb,vc].all fG=true) (nU:eV H0 rb lp.aj.length lp.aj.length (lp.fA.M i)) {L:bQ} (ck:a7 1 L=some (.pointer (some ⟨b0,0,none⟩))) (eT:a7 3 L=some (.pointer (some ⟨aA 0,0,none⟩))) (dO:a7 7 L=some (.int .i64 (i:Int)))
 (pN:a7 9 L=some (.pointer (some ⟨bx,0,none⟩))) (l10:a7 10 L=some (.slice (some ⟨rb,0,none⟩) lp.aj.length lp.aj.length)) {u57:Value} (o3:a7 57 L=some u57) (q2:a7 58 L=some (.int .i64 (lp.rows.length:Int))) (pR:a7 59 L=some (.int .i64 (i:Int))) {Q:c'}
 (fin:∀l' H' eC,bp pm ba H0 H'->eC 0=aA 0->jL lp.aX ba H' eC (.slice k1 lp.aj.length k2) cc (lp.aj.length+(i+1)) (i+1) lp.aj.length lp.fA->Sub [(59,.int .i64 (i:Int)),(58,.int .i64 (lp.rows.length:Int)),(1,.pointer (some ⟨b0,0,none⟩)),(3,.pointer (some ⟨aA 0,0,none⟩)),(57,u57)] l'->Q .normal l' H'):
 wp X pm (.code DL) L H0 [] Q:=by
 have j2:=au.c;have mM:=au.r;obtain⟨c3,ql⟩:=bZa (lp.aj.length+i);rw[<-ql]at aD hq;obtain⟨s,aG⟩:=bZa (H0.next);have pP:=g0.none;have yQ:=g0.fo;rw[<-aG]at pP yQ;have fq:=aD.t;have fw:Real c3 i lp.aj.length 0:=.inl rfl;have b4:0<c3->Real c3 i lp.aj.length 1:=λh=>.inr (.inl ⟨rfl,h⟩);have cB:0<i->Real c3 i lp.aj.length 2:=λh=>.inr (.inr (.inl ⟨.inl rfl,h⟩));have kf:0<i->Real c3 i lp.aj.length 4:=λh=>.inr (.inr (.inl ⟨.inr rfl,h⟩));have yR:aA 0<s:=by have:=aD.lt g0 fw;omega
 have lv:=λh=>aD.lt g0 (b4 h);have DM:=λh=>aD.lt g0 (cB h);have A0:=λh=>aD.lt g0 (kf h);have LF:bx<s:=by have:=g0.lt az;omega
 have Rw:b0<s:=by omega
 have AX:0<c3->aA 0≠aA 1:=λh e=>absurd (aD.inj 0 1 fw (b4 h) e) (by decide);have aDR:0<i->aA 0≠aA 2:=λh e=>absurd (aD.inj 0 2 fw (cB h) e) (by decide);have LM:0<i->aA 0≠aA 4:=λh e=>absurd (aD.inj 0 4 fw (kf h) e) (by decide);have n14:0<c3->0<i->aA 1≠aA 4:=λh gJ e=>absurd (aD.inj 1 4 (b4 h) (kf gJ) e) (by decide);have aDS:0<c3->0<i->aA 1≠aA 2:=λh gJ e=>absurd (aD.inj 1 2 (b4 h) (cB gJ) e) (by decide);have n24:0<i->aA 2≠aA 4:=λh e=>absurd (aD.inj 2 4 (cB h) (kf h) e) (by decide);have DK:=aD.ge 0 fw;have LN:=λh=>aD.ge 1 (b4 h);have acN:=λh=>aD.ge 2 (cB h);have LO:=λh=>aD.ge 4 (kf h);have eO:∀o b,ba<=b->Perm.may ⟨pm.lo,pm.ok,o⟩ b=true:=λo b h=>jh (bH ey h);obtain⟨ga,mF,iy⟩:∃ga,(0<c3->H0.get (aA 1)=some (.cells ga (.n 3))/\ga.length=c3*3/\∀x,x<c3->∃p q c,ga[x*3]? = some p/\ga[x*3+1]? = some q/\ga[x*3+2]? = some c/\qY H0 lp.aX lp.fA.v x p q c)/\(c3=0->ga=[]):=by
  by_cases e:c3=0
  ·exact⟨[],λh=>by omega,λ_=>rfl⟩
  ·obtain⟨ss,U⟩:=aD.v (by omega);exact⟨ss,λ_=>U,λh=>absurd h e⟩
 obtain⟨nC,ot,rr⟩:∃nC,(0<i->H0.get (aA 2)=some (.cells nC (.n 1))/\nC.length=i/\∀j,j<i->nC[j]? = some (.int .i64 (lp.fA.rows j:Int)))/\(i=0->nC=[]):=by
  by_cases e:i=0
  ·exact⟨[],λh=>by omega,λ_=>rfl⟩
  ·obtain⟨ss,U⟩:=aD.r (by omega);exact⟨ss,λ_=>U,λh=>absurd h e⟩
 obtain⟨n',AZ,ft⟩:∃n',(0<i->H0.get (aA 4)=some (.cells n' (.n 1))/\n'.length=i/\∀j,j<i->n'[j]? = some (.slice (some ⟨aA (5+j),0,none⟩) lp.aj.length lp.aj.length))/\(i=0->n'=[]):=by
  by_cases e:i=0
  ·exact⟨[],λh=>by omega,λ_=>rfl⟩
  ·obtain⟨ss,U⟩:=aD.m (by omega);exact⟨ss,λ_=>U,λh=>absurd h e⟩
 obtain⟨vj,Ac⟩:∃vj:Value,vj=.slice (some ⟨rb,0,none⟩) lp.aj.length lp.aj.length:=⟨_,rfl⟩;have Dn:[vj].all fG=true:=by rw[Ac];rfl
 simp;refine eg.of g0.lo rfl ?_;have LG:K pm H0 (H0.up 37):=(K.refl g0).up 37;obtain⟨fL,fc⟩:=bZa ((H0.up 37).put (s+8) (.cells [vj] (.n 1)));have hD:K pm H0 fL:=by rw[fc];exact bp.fill LG (by omega) (by show H0.get _=none;exact pP 8) (by show s+8<H0.next+37;omega) _
 have TG:fL.next=s+37:=by rw[fc];show H0.next+37=_;omega
 have oP:∀j,j≠8->fL.get (s+j)=none:=λj aH=>by rw[fc,cq (by omega)];exact pP j
 have TC:fL.get (s+8)=some (.cells [vj] (.n 1)):=by rw[fc];exact dX
 have ao:=G5 (H:=fL) (w:=1) (by':=24) (c:=aA 4) (i:=i) (lo:=pm.lo) (okl:=pm.ok) (b:=s+9) (ss:=n') (xs:=[vj]) (λh=>⟨hD.some g0 (AZ h).1,by simpa using(AZ h).2.1,eO _ _ (LO h)⟩) ft Dn (by decide) (by omega) (by decide);obtain⟨fV,fg⟩:=bZa ((hF fL (aA 4) i).put (s+9) (.cells (n'++[vj]) (.n 1)));rw[<-fg]at ao;have fm:bp pm ba H0 fV:=by
  rw[fg];exact bp.fill (bp.hF (hD.mono aF) λh=>⟨LO h,hD.some g0 (AZ h).1⟩) (by omega) (by rw[l8 (λh=>by have:=A0 h;omega)];exact oP 9 (by decide)) (by rw[yP];omega) _
 have TH:fV.next=s+37:=by rw[fg,TI,yP];exact TG
 have rL:∀j,9<j->fV.get (s+j)=none:=λj aH=>by rw[fg,cq (by omega),l8 (λh=>by have:=A0 h;omega)];exact oP j (by omega)
 have DF:∀b,b<s->(0<i->b≠aA 4)->fV.get b=H0.get b:=λb ai gN=>by
  rw[fg,cq (by omega),l8 gN,fc,cq (by omega)];rfl
 have TD:=(DF (aA 0) yR LM).trans fq;have aDT:=(DF bx LF λh=>((hq 4 (kf h)).1).symm).trans az;obtain⟨fW,fp⟩:=bZa (fV.put (s+15) (.cells [va,vb,vc] (.n 3)));have fu:bp pm ba H0 fW:=by rw[fp];exact bp.fill fm (by omega) (rL 15 (by decide)) (by omega) _
 have acK:fW.next=s+37:=by rw[fp];exact TH
 have uy:∀j,15<j->fW.get (s+j)=none:=λj aH=>by rw[fp,cq (by omega)];exact rL j (by omega)
 have TE:fW.get (s+15)=some (.cells [va,vb,vc] (.n 3)):=by rw[fp];exact dX
 have DG:∀b,b<s->(0<i->b≠aA 4)->fW.get b=H0.get b:=λb ai gN=>by rw[fp,cq (by omega)];exact DF b ai gN
 have acO:0<c3->fW.get (aA 1)=some (.cells ga (.n 3)):=λh=>(DG _ (by have:=lv h;omega) λgJ=>n14 h gJ).trans (mF h).1;have bd:=G5 (H:=fW) (w:=3) (by':=24) (c:=aA 1) (i:=c3) (lo:=pm.lo) (okl:=pm.ok) (b:=s+16) (ss:=ga) (xs:=[va,vb,vc]) (λh=>⟨acO h,(mF h).2.1,eO _ _ (LN h)⟩) iy oA (by decide) (by omega) (by decide);obtain⟨oQ,km⟩:=bZa ((hF fW (aA 1) c3).put (s+16) (.cells (ga++[va,vb,vc]) (.n 3)));rw[<-km]at bd;have eX:bp pm ba H0 oQ:=by
  rw[km];exact bp.fill (bp.hF fu λh=>⟨LN h,acO h⟩) (by omega) (by rw[l8 (λh=>by have:=lv h;omega)];exact uy 16 (by decide)) (by rw[yP];omega) _
 have aDU:oQ.next=s+37:=by rw[km,TI,yP];exact acK
 have DH:∀j,16<j->oQ.get (s+j)=none:=λj aH=>by rw[km,cq (by omega),l8 (λh=>by have:=lv h;omega)];exact uy j (by omega)
 have AY:∀b,b<s->(0<i->b≠aA 4)->(0<c3->b≠aA 1)->oQ.get b=H0.get b:=λb ai aDV gN=>by
  rw[km,cq (by omega),l8 gN];exact DG b ai aDV
 have LH:=(AY (aA 0) yR LM AX).trans fq;have aDW:=(AY b0 Rw (λh=>by have:=LO h;omega) λh=>by have:=LN h;omega).trans fE;obtain⟨r6,nB⟩:=bZa (oQ.put (s+26) (.cells [.int .i64 ((lp.aj.length:Int)+(i:Int))] (.n 1)));have hl:bp pm ba H0 r6:=by rw[nB];exact bp.fill eX (by omega) (DH 26 (by decide)) (by omega) _
 have aHs:r6.next=s+37:=by rw[nB];exact aDU
 have G7:∀j,26<j->r6.get (s+j)=none:=λj aH=>by rw[nB,cq (by omega)];exact DH j (by omega)
 have aDX:r6.get (s+26)=some (.cells [.int .i64 ((lp.aj.length:Int)+(i:Int))] (.n 1)):=by rw[nB];exact dX
 have acP:0<i->r6.get (aA 2)=some (.cells nC (.n 1)):=λh=>by
  have:=DM h;rw[nB,cq (by omega)];exact(AY _ (by omega) n24 λgJ=>(aDS gJ h).symm).trans (ot h).1
 have cK:=G5 (H:=r6) (w:=1) (by':=8) (c:=aA 2) (i:=i) (lo:=pm.lo) (okl:=pm.ok) (b:=s+27) (ss:=nC) (xs:=[.int .i64 ((lp.aj.length:Int)+(i:Int))]) (λh=>⟨acP h,by simpa using(ot h).2.1,eO _ _ (acN h)⟩) rr rfl (by decide) (by omega) (by decide);obtain⟨tc,pQ⟩:=bZa ((hF r6 (aA 2) i).put (s+27) (.cells (nC++[.int .i64 ((lp.aj.length:Int)+(i:Int))]) (.n 1)));rw[<-pQ]at cK;have kk:bp pm ba H0 tc:=by
  rw[pQ];exact bp.fill (bp.hF hl λh=>⟨acN h,acP h⟩) (by omega) (by rw[l8 (λh=>by have:=DM h;omega)];exact G7 27 (by decide)) (by rw[yP];omega) _
 have acQ:∀j,27<j->tc.get (s+j)=none:=λj aH=>by rw[pQ,cq (by omega),l8 (λh=>by have:=DM h;omega)];exact G7 j (by omega)
 have LI:∀b,b<s->(0<i->b≠aA 4)->(0<c3->b≠aA 1)->(0<i->b≠aA 2)->tc.get b=H0.get b:=λb ai a8 U aa=>by
  rw[pQ,cq (by omega),l8 aa,nB,cq (by omega)];exact AY b ai a8 U
 have acR:=(LI (aA 0) yR LM AX aDR).trans fq;obtain⟨acS,JK⟩:=bZa (Value.slice k1 lp.aj.length k2);obtain⟨LP,DN⟩:=bZa (tc.put (aA 0) (.cells [.slice k1 lp.aj.length k2,cc,sl (aA 1) c3,sl (aA 2) i,sl (aA 3) lp.aj.length,sl (s+9) (i+1)] (.t tyT)));have tb:bp pm ba H0 LP:=by rw[DN];exact bp.put kk DK acR (by simp) _
 have acT:∀j,27<j->LP.get (s+j)=none:=λj aH=>by rw[DN,cq (by omega)];exact acQ j aH
 have acU:LP.get (aA 0)=some (.cells [.slice k1 lp.aj.length k2,cc,sl (aA 1) c3,sl (aA 2) i,sl (aA 3) lp.aj.length,sl (s+9) (i+1)] (.t tyT)):=by rw[DN];exact dX
 obtain⟨LQ,DO⟩:=bZa (LP.put (aA 0) (.cells [.slice k1 lp.aj.length k2,cc,sl (s+16) (c3+1),sl (aA 2) i,sl (aA 3) lp.aj.length,sl (s+9) (i+1)] (.t tyT)));have u8:bp pm ba H0 LQ:=by rw[DO];exact bp.put tb DK acU (by simp) _
 have aDY:∀j,27<j->LQ.get (s+j)=none:=λj aH=>by rw[DO,cq (by omega)];exact acT j aH
 have acV:LQ.get (aA 0)=some (.cells [.slice k1 lp.aj.length k2,cc,sl (s+16) (c3+1),sl (aA 2) i,sl (aA 3) lp.aj.length,sl (s+9) (i+1)] (.t tyT)):=by rw[DO];exact dX
 obtain⟨o2,G'⟩:=bZa (LQ.put (aA 0) (.cells [.slice k1 lp.aj.length k2,cc,sl (s+16) (c3+1),sl (s+27) (i+1),sl (aA 3) lp.aj.length,sl (s+9) (i+1)] (.t tyT)));have xg:bp pm ba H0 o2:=by rw[G'];exact bp.put u8 DK acV (by simp) _
 have TF:=λo=>eO o _ DK;have oN:∀b i,fG (sl b i)=true:=λb i=>by unfold sl;split<;>rfl
 have oO:∀b i,(sl b i).cells=#[sl b i]:=λb i=>by unfold sl;split<;>rfl
 have mg:wr .i64 ((lp.aj.length:Int)+(i:Int))=(lp.aj.length:Int)+(i:Int):=zWc (by omega) (by omega);have aDZ:vj.cells=#[vj]:=by rw[Ac];rfl
 rw[<-Ac]at l10
 simp[dt,<-aG,pP,yQ,ck,eT,dO,pN,l10,fq,cX,c5,Perm.make,Perm.pick,aDZ,fill,<-fc,oP,TC,ao,rL,TD,aDT,<-fp,uy,TE,bd,DH,LH,aDW,mg,<-nB,G7,aDX,cK,acQ,acR,TF,oN,oO,<-DN,acT,acU,<-DO,aDY,acV,<-G',dx,dm,ez,yR,LF,Rw,
  kS (show s+8≠aA 0 by omega),kS (show s+8≠bx by omega),kS (show s+8≠b0 by omega),kS (show s+15≠aA 0 by omega),kS (show s+15≠b0 by omega),kS (show s+26≠aA 0 by omega),kS (show s+26≠bx by omega),
  AW (c:=aA 4) (i:=i) (b:=s+9) (x:=aA 0) (λh=>(LM h).symm) (by omega),AW (c:=aA 4) (i:=i) (b:=s+9) (x:=bx) (λh=>(hq 4 (kf h)).1) (by omega),AW (c:=aA 4) (i:=i) (b:=s+9) (x:=b0) (λh=>by have:=LO h;omega) (by omega),
  AW (c:=aA 1) (i:=c3) (b:=s+16) (x:=aA 0) (λh=>(AX h).symm) (by omega),AW (c:=aA 1) (i:=c3) (b:=s+16) (x:=b0) (λh=>by have:=LN h;omega) (by omega),
  LB (c:=aA 4) (i:=i) (b:=s+9) (x:=s+15) (λh=>by have:=A0 h;omega) (by omega),LC (c:=aA 4) (i:=i) (y:=s+8) (x:=s+15) (λh=>by have:=A0 h;omega) (by omega),
  LB (c:=aA 4) (i:=i) (b:=s+9) (x:=s+26) (λh=>by have:=A0 h;omega) (by omega),LC (c:=aA 4) (i:=i) (y:=s+8) (x:=s+26) (λh=>by have:=A0 h;omega) (by omega),
  LB (c:=aA 1) (i:=c3) (b:=s+16) (x:=s+26) (λh=>by have:=lv h;omega) (by omega),LC (c:=aA 1) (i:=c3) (y:=s+15) (x:=s+26) (λh=>by have:=lv h;omega) (by omega)]
 refine⟨⟨λx az=>.inl (.inl (.inl (G4 (λh=>by have:=A0 h;omega) az))),λx az=>.inl (.inl (.inl (G4 (λh=>by have:=lv h;omega) az))),λx az=>.inl (.inl (.inl (G4 (λh=>by have:=DM h;omega) az)))⟩,?_⟩;have G9:∀b,b<s->b≠aA 0->(0<i->b≠aA 4)->(0<c3->b≠aA 1)->(0<i->b≠aA 2)->o2.get b=H0.get b:=λb ai gU a8 U aa=>by
  rw[G',cq gU,DO,cq gU,DN,cq gU];exact LI b ai a8 U aa
 have top:∀j,s<=j->o2.get j=tc.get j:=λj aH=>by rw[G',cq (by omega),DO,cq (by omega),DN,cq (by omega)]
 have LJ:o2.get (s+9)=some (.cells (n'++[vj]) (.n 1)):=by
  rw[top _ (by omega),pQ,cq (by omega),l8 (λh=>by have:=DM h;omega),nB,cq (by omega),km,cq (by omega),l8 (λh=>by have:=lv h;omega),fp,cq (by omega),fg];exact dX
 have TN:o2.get (s+16)=some (.cells (ga++[va,vb,vc]) (.n 3)):=by
  rw[top _ (by omega),pQ,cq (by omega),l8 (λh=>by have:=DM h;omega),nB,cq (by omega),km];exact dX
 have TO:o2.get (s+27)=some (.cells (nC++[.int .i64 ((lp.aj.length:Int)+(i:Int))]) (.n 1)):=by
  rw[top _ (by omega),pQ];exact dX
 have aD0:lp.aj.length+(i+1)=c3+1:=by omega
 rw[aD0]at fin;rw[Ac]at LJ;obtain⟨tU,zw⟩:=aDN g0 ql aG aF aD n6 hq aw nU mF iy ot rr AZ ft xg (by rw[G',dX]) LJ TN TO G9;exact fin _ o2 _ xg tU zw (by simp[ck,eT,o3,q2,pR])
end
abbrev tyY:Nat:=T.aD1
abbrev tyK:Nat:=T.aD2
section
variable{ba:Nat}{aA:Nat->Nat}{lc cc:Value}{lp:bD}{k1:Option Addr}{k2:Nat}
theorem acW(au:lp.ok){j:Nat}(aH:j<lp.aj.length):sz (lp.v0 j) 10000:=by
 obtain⟨U,aa,_⟩:=au.cs (lp.col j) (fR (bD.Cn aH));unfold bD.v0 yp gT;split
 ·rename_i l aO;split at aO
  ·cases aO
  ·cases aO;exact jf U (by decide)
 ·split
  ·exact uh (by decide)
  ·exact jf aa (by decide)
theorem aD3(al:hj X)(g0:cl pm H0)(ea:K pm H0 H)(au:lp.ok)(hm:lp.dP=true){i c3:Nat}(_hi:i<lp.rows.length)(ql:lp.aj.length<=c3)(aD:jL lp.aX ba H0 aA lc cc c3 i lp.aj.length lp.fA){r:di}{vc:Value}(an:lp.rows[i]? = some r)(k9:nX H0 vc r.cM){yT bx rb:Nat}{z2:dI}{va vb u:Value}(pz:H0.next<=bx)(n6:H0.next<=rb)(wB:bx≠rb)
 (yU:H.get yT=some (.cells (r.cells vc) z2)) (az:H.get bx=some (.cells [va,vb,u] (.t tyY))) (hu:c1 H u 0) (nU:eV H rb lp.aj.length lp.aj.length λ_=>0) {L:bQ} {v1:Value} (ck:a7 1 L=some v1) (eT:a7 3 L=some (.pointer (some ⟨aA 0,0,none⟩))) (dO:a7 7 L=some (.int .i64 (i:Int)))
 (e3:a7 8 L=some (.pointer (some ⟨yT,0,none⟩))) (pN:a7 9 L=some (.pointer (some ⟨bx,0,none⟩))) (l10:a7 10 L=some (.slice (some ⟨rb,0,none⟩) lp.aj.length lp.aj.length)) {u57:Value} (o3:a7 57 L=some u57) (q2:a7 58 L=some (.int .i64 (lp.rows.length:Int))) (pR:a7 59 L=some (.int .i64 (i:Int))) {Q:c'}
 (fin:∀l' H' k5,K pm H0 H'->bp pm H0.next H H'->H'.get bx=some (.cells [va,vb,k5] (.t tyY))->c1 H' k5 (ix r.cM lp.v0)->eV H' rb lp.aj.length lp.aj.length (nu r.cM)->Sub [(1,v1),(3,.pointer (some ⟨aA 0,0,none⟩)),(7,.int .i64 (i:Int)),(9,.pointer (some ⟨bx,0,none⟩)),(10,.slice (some ⟨rb,0,none⟩) lp.aj.length lp.aj.length),(57,u57),(58,.int .i64 (lp.rows.length:Int)),(59,.int .i64 (i:Int))] l'->wp X pm (.code DL) l' H' [] Q):
 wp X pm (.code Ha) L H [] Q:=by
 have j2:=au.c;have lh:=fR an;have dC:=zC hm lh;have dM:=au.rs r lh;obtain⟨xR,_,_,_⟩:=Ck dC dM j2;have hlen:=xR.len;obtain⟨base,cap,rfl,eU⟩:=k9.at;simp[e3,yU,di.cells,-TP,-DL]
 refine gG (σ:=Value) r.cM.length (λp _=>[(1,v1),(3,.pointer (some ⟨aA 0,0,none⟩)),(7,.int .i64 (i:Int)),(9,.pointer (some ⟨bx,0,none⟩)),(10,.slice (some ⟨rb,0,none⟩) lp.aj.length lp.aj.length),(57,u57),(58,.int .i64 (lp.rows.length:Int)),(59,.int .i64 (i:Int)),(95,.slice base r.cM.length cap)])
  (λp u H'=>K pm H0 H'/\bp pm H0.next H H'/\H'.get bx=some (.cells [va,vb,u] (.t tyY))/\c1 H' u (ix (r.cM.take p) lp.v0)/\eV H' rb lp.aj.length lp.aj.length (nu (r.cM.take p))) u (by decide) (by omega) (by simp[ck,eT,dO,pN,l10,o3,q2,pR]) ⟨ea,bp.refl ea.aL,az,by simpa [ix]using hu,by simpa [nu]using nU⟩ (by simp) ?_ ?_
 ·rintro p u H1 aC ⟨av,DP,kR,kE,gQ⟩;obtain⟨b',off,kO,row,cs,rfl,e2,bd,b1,cQ,cK,rfl⟩:=eU p aC;obtain⟨U,aa,aq,a8⟩:=xR.all cQ (fR cK);obtain⟨j,aH⟩:∃j:Nat,cQ.col=(j:Int):=⟨cQ.col.toNat,by omega⟩;have mB:j<lp.aj.length:=by omega
  have zA:cQ.col.toNat=j:=by omega
  have g1:=av.aL;have gW:=av.some g0 e2;obtain⟨aJ,ee⟩:=bZa ((H1.new (.cells [.int .i64 0,.string ⟨#[]⟩] (.t tyK))).put H1.next (.cells [.int .i64 cQ.col,aW cQ.v] (.t tyK)));have aI:K pm H1 aJ:=by rw[ee];exact mv g1 _ _ (by simp)
  have eA:aJ.get H1.next=some (.cells [.int .i64 cQ.col,aW cQ.v] (.t tyK)):=by rw[ee];exact dX
  have g2:=aI.aL;have nj:=g2.lt eA;have Js:∀o,Perm.may ⟨pm.lo,pm.ok,o⟩ rb=true:=λo=>jh (bH g0.lo n6);have qg:∀o,Perm.may ⟨pm.lo,pm.ok,o⟩ bx=true:=λo=>jh (bH g0.lo pz);have d':=U;unfold fb.ok at d';have aD4:cQ.v≠[]:=by rintro e;rw[e]at aa;simp[isNum,Jj]at aa
  obtain⟨cH,d1,d2,d3⟩:=gQ.k g1 aI;have xe:=g2.lt d1;simp[aC,gW,bd,b1,g1.pick,g1.make,g1.may (bR _),ptr,c5,fb.cells,<-ee,-Hb];refine eg.of g2.lo rfl ?_;have bE:K pm aJ (aJ.up 8):=(K.refl g2).up 8;simp[dt,g2.none,g2.fo,eA,aH,-Hb];refine bZx bE.aL (vs:=[aW cQ.v]) (by simp[g2.none]) (λpm' bS=>Dt al bS (by omega) λ_=>aa) ?_;rintro bJ bN aQ f1;rw[gT,aU aD4]at f1;have gZ:=aQ.res g2;have my:=bE.trans aQ;have g3:=my.aL;have qE:=my.some g2 d1;obtain⟨aX,rfl,_⟩:=id f1;have zJ:j<cH.length:=by omega
  simp[gZ,qE,mB,Js,zJ,dx,dm,nj,xe,eJ,ez,qs,-Hb];have aD5:=λy (bu:y<lp.aj.length)=>(d3 y bu).imp λv aw=>(⟨aw.1,aw.2.up my⟩:_/\_);obtain⟨eX,d4⟩:=eV.put (m:=H0.next) g3 n6 qE d2 aD5 mB f1 (k':=lp.aj.length) (λy bu=>.inr bu);obtain⟨cp,nZ⟩:=bZa (bN.put rb (.cells (cH.set j (.pointer (some ⟨aX,0,none⟩))) (.n 1)));rw[<-nZ]at eX d4|-;have g4:=eX.aL;have h0:=aI.trans my;have jY:K pm H0 cp:=bp.trans (K.trans av h0) eX;have vk:cp.get bx=some (.cells [va,vb,u] (.t tyY)):=by rw[nZ,cq wB];exact h0.some g1 kR
  have aHt:=g1.lt kR;have mw:cp.get H1.next=some (.cells [.int .i64 cQ.col,aW cQ.v] (.t tyK)):=by
   have nk:rb<H1.next:=by
    obtain⟨_,e,_⟩:=gQ;exact g1.lt e
   rw[nZ,cq (by omega)];exact my.some g2 eA
  have aD6:c1 cp u (ix (r.cM.take p) lp.v0):=(kE.up h0).up eX;have t4:=aD.k g0 jY;have yO:=t4.t;rw[eQ (b:=aA 1) (show 0<c3 by omega)]at yO;obtain⟨vs,BF,aHu,aD7⟩:=t4.v (by omega);obtain⟨DQ,KA,yA,cS,bL,kF,Am⟩:=aD7 j (by omega);have QJ:lp.fA.v j=lp.v0 j:=bm mB;have Aq:=Am.v;rw[QJ]at Aq;have f4:=f1.up eX;obtain⟨es,s1,s2,de⟩:=id d4;have aD8:es[j]? = some (.pointer (some ⟨aX,0,none⟩)):=by
   have:cp.get rb=some (.cells (cH.set j (.pointer (some ⟨aX,0,none⟩))) (.n 1)):=by rw[nZ];exact dX
   rw[s1]at this;cases this;rw[bVe zJ]
  have tv:=g4.lt vk;have s6:=g4.lt mw;have iL:=g4.lt s1;have qV:=g4.lt yO;have wM:=g4.lt BF;simp[-TQ];refine eg.of g4.lo rfl ?_;have s':K pm cp (cp.up 20):=(K.refl g4).up 20;simp[dt,g4.none,g4.fo,vk,mw,aH,s1,aD8,mB,yO,BF,kF,show j<c3 by omega];have GF:=λm=>qz (f4.up s') (Aq.up s') (s'.some g4 vk) m;have acX:=jf (k:=10000) d' (by decide);have acY:=acW au mB;refine bZx s'.aL (vs:=[.pointer (some ⟨aX,0,none⟩),yA]) (by simp[g4.none]) (λpm' bS=>sF al.toOb bS (f4.up s').of (Aq.up s').of (acX.ca (by decide)) (acY.ca (by decide))) ?_;rintro qZ ep cv f6;have nq:=cv.res g4;simp;have yN:sz (ix (r.cM.take p) lp.v0) 21000000:=by
   refine ff (Ok (t:=10000) λc af=>?_) ?_
   ·obtain⟨U,_,aq,a8⟩:=xR.all c (bWH af);exact⟨U,acW au (by omega)⟩
   ·have U:(r.cM.take p).length<=1000:=bH (List.take_sublist _ _).length_le hlen;have aq:(r.cM.take p).length*(10000+10001)<=20001000:=bH (ie U (bR _)) (by decide);exact bH (bVR aq) (by decide)
  refine bYf cv.aL (vs:=[u,qZ]) (by simp[nq]) (λpm' bS=>v8 al.toOb bS ((aD6.up s').up cv).of f6.of (yN.ca (by decide)) ((la acX acY).ca (by decide))) ?_;rintro AH hM dJ f7;have pG:=(K.trans cv dJ).res g4;have LR:=s'.trans (cv.trans dJ);have acZ:=LR.some g4 vk;obtain⟨GD,rfl,_⟩:=id f7;simp[pG,acZ,qg,dx,dm,tv,s6,iL,qV,wM,ez,GF];have u8:bp pm H0.next hM (hM.put bx (.cells [va,vb,.pointer (some ⟨GD,0,none⟩)] (.t tyY))):=bp.put (.refl dJ.aL) pz acZ (by simp) _;have ui:r.cM.take (p+1)=r.cM.take p++[cQ]:=by rw[List.take_add_one,cK];rfl
  refine⟨bp.trans (K.trans jY LR) u8,(((DP.trans (h0.mono av.next)).trans eX).trans (LR.mono jY.next)).trans u8,?_,?_⟩
  ·rw[ui,Yc,zA];exact f7.up u8
  ·have d8:=(d4.k g4 LR).ext u8 λy e=>by rw[cq (Ne.symm wB)];exact e
   refine d8.congr λy bu=>?_;rw[ui,nu,List.foldl_append];show mT (nu (r.cM.take p)) cQ y=_;rw[mT,zA]
 ·rintro u H1 ⟨av,DP,kR,kE,gQ⟩;rw[List.take_length]at kE gQ;simp[-DL];exact fin _ _ u av DP kR kE gQ (by simp)
end
abbrev tyR:Nat:=T.aD9
section
variable{ba:Nat}{aA:Nat->Nat}{lc cc:Value}{lp:bD}{k1:Option Addr}{k2:Nat}
theorem CW{i:Nat}:lp.aX.lo (lp.aj.length+i)=if(lp.row i).kind=1 then none else gT (lp.row i).rhs:=by
 show(if lp.aj.length+i<lp.aj.length then _ else if(lp.row (lp.aj.length+i-lp.aj.length)).kind=1 then none else gT (lp.row (lp.aj.length+i-lp.aj.length)).rhs)=_;rw[aU (by omega),show lp.aj.length+i-lp.aj.length=i by omega]
theorem CX{i:Nat}:lp.aX.up (lp.aj.length+i)=if(lp.row i).kind=3 then none else gT (lp.row i).rhs:=by
 show(if lp.aj.length+i<lp.aj.length then _ else if(lp.row (lp.aj.length+i-lp.aj.length)).kind=3 then none else gT (lp.row (lp.aj.length+i-lp.aj.length)).rhs)=_;rw[aU (by omega),show lp.aj.length+i-lp.aj.length=i by omega]
theorem ZS{i:Nat}:lp.fA.v (lp.aj.length+i)=ix (lp.row i).cM lp.v0:=by
 show(if lp.aj.length+i<lp.aj.length then _ else ix (lp.row (lp.aj.length+i-lp.aj.length)).cM lp.v0)=_;rw[aU (by omega),show lp.aj.length+i-lp.aj.length=i by omega]
theorem aEa(al:hj X)(g0:cl pm H0)(ea:K pm H0 H)(ey:pm.lo<=ba)(aF:ba<=H0.next)(au:lp.ok)(hm:lp.dP=true){i:Nat}(hi:i<lp.rows.length)(aD:jL lp.aX ba H0 aA (.slice k1 lp.aj.length k2) cc (lp.aj.length+i) i lp.aj.length lp.fA){vc:Value}(k9:nX H0 vc (lp.row i).cM){b0 yT bx:Nat}{zb z2:dI}{va vb u:Value}(pz:H0.next<=bx)
 (fE:H0.get b0=some (.cells [.slice k1 lp.aj.length k2,cc] zb)) (LL:b0<ba) (yU:H.get yT=some (.cells ((lp.row i).cells vc) z2)) (az:H.get bx=some (.cells [va,vb,u] (.t tyY))) (hu:c1 H u 0) (yB:ia H va (lp.aX.lo (lp.aj.length+i))) (oC:ia H vb (lp.aX.up (lp.aj.length+i)))
 {L:bQ} (ck:a7 1 L=some (.pointer (some ⟨b0,0,none⟩))) (eT:a7 3 L=some (.pointer (some ⟨aA 0,0,none⟩))) (dO:a7 7 L=some (.int .i64 (i:Int)))
 (e3:a7 8 L=some (.pointer (some ⟨yT,0,none⟩))) (pN:a7 9 L=some (.pointer (some ⟨bx,0,none⟩))) {u57:Value} (o3:a7 57 L=some u57) (q2:a7 58 L=some (.int .i64 (lp.rows.length:Int))) (pR:a7 59 L=some (.int .i64 (i:Int))) {Q:c'}
 (fin:∀l' H' eC,bp pm ba H0 H'->eC 0=aA 0->jL lp.aX ba H' eC (.slice k1 lp.aj.length k2) cc (lp.aj.length+(i+1)) (i+1) lp.aj.length lp.fA->Sub [(59,.int .i64 (i:Int)),(58,.int .i64 (lp.rows.length:Int)),(1,.pointer (some ⟨b0,0,none⟩)),(3,.pointer (some ⟨aA 0,0,none⟩)),(57,u57)] l'->Q .normal l' H'):
 wp X pm (.code A1) L H [] Q:=by
 have j2:=au.c;have g:=ea.aL;have Pf:=ea.some g0 fE;obtain⟨rb,n6⟩:=bZa (H.next);obtain⟨H1,cw⟩:=bZa (H.new (.cells (times [.pointer none] lp.aj.length) (.n 1)));have av:=bZv g cw;have d1:eV H1 rb lp.aj.length 0 λ_=>0:=⟨_,by rw[cw,n6];exact dT,G3 _ _,λi hi=>absurd hi (od _)⟩;have sQ:H0.next<=rb:=by rw[n6];exact ea.next
 have Js:pm.may rb=true:=g.may (by omega);have yi:=g.lt az;have aHv:=g.lt yU;have wB:bx≠rb:=by omega
 have oB:yT≠rb:=by omega
 simp[ck,Pf,rD g.tocU (show lp.aj.length<=1073741824 by omega) (show 8*lp.aj.length<=17179869184 by omega),<-cw,<-n6,-TR,-Ha]
 refine gG (σ:=Unit) lp.aj.length (λ_ _=>[(1,.pointer (some ⟨b0,0,none⟩)),(3,.pointer (some ⟨aA 0,0,none⟩)),(7,.int .i64 (i:Int)),(8,.pointer (some ⟨yT,0,none⟩)),(9,.pointer (some ⟨bx,0,none⟩)),(10,.slice (some ⟨rb,0,none⟩) lp.aj.length lp.aj.length),(57,u57),(58,.int .i64 (lp.rows.length:Int)),(59,.int .i64 (i:Int))])
  (λk _ H'=>K pm H0 H'/\H'.get yT=some (.cells ((lp.row i).cells vc) z2)/\H'.get bx=some (.cells [va,vb,u] (.t tyY))/\bp pm H0.next H H'/\eV H' rb lp.aj.length k λ_=>0) () (by decide) (by omega) (by simp[ck,eT,dO,e3,pN,o3,q2,pR]) ⟨ea.trans av,av.some g yU,av.some g az,av.mono ea.next,d1⟩ (by simp) ?_ ?_
 ·rintro k _ aJ ag ⟨aI,fP,jw,fm,d2⟩;have g2:=aI.aL;simp[-TS];refine aR.bZb (vs:=[.int .i64 0]) (sE al.toOb g2 (n:=0) (by omega) (by omega)) ?_;rintro cO bN ⟨aQ,f3⟩;obtain⟨cH,cx,a2,a3⟩:=d2.k g2 aQ;obtain⟨eX,d4⟩:=eV.put (m:=H0.next) aQ.aL sQ cx a2 a3 ag f3 (k':=k+1) (λj aH=>by omega);obtain⟨aX,rfl,_⟩:=id f3;simp[cx,ag,Js,show k<cH.length by omega];refine⟨bp.trans (aI.trans aQ) eX,?_,?_,(fm.trans (aQ.mono aI.next)).trans eX,d4.congr λj aH=>?_⟩
  ·rw[cq oB];exact aQ.some g2 fP
  ·rw[cq wB];exact aQ.some g2 jw
  ·by_cases e:j=k<;>simp[e]
 ·rintro _ aJ ⟨aI,fP,jw,fm,d2⟩;simp[-Ha];refine aD3 al g0 aI au hm hi (hS _ _) aD (bD.rowAt hi) k9 pz sQ wB fP jw (hu.up fm) d2 (v1:=.pointer (some ⟨b0,0,none⟩)) (u57:=u57) (by simp) (by simp) (by simp) (by simp) (by simp) (by simp) (by simp) (by simp) (by simp) λl' H' k5 k' DP qO ac0 m' ku=>?_;simp only[Gz]at ku;obtain⟨tU,Fa,N0,NZ,N1,aEb,aEc,aEd,_⟩:=ku;have bO:=λj aH=>aD.lt g0 (j:=j) aH;refine aDQ k'.aL ey (bH aF k'.next) au hi (aD.k g0 k') (b0:=b0) (bx:=bx) (rb:=rb) (bH aF pz) (bH aF sQ) wB (λj aH=>?_) qO (k'.some g0 fE) LL ⟨?_,?_,?_⟩ ?_ m' tU Fa N0 NZ N1 aEb aEc aEd λYA cL aEe aEf aEg aEh aEi=>?_
  ·have:=bO j aH;exact⟨by omega,by omega⟩
  ·exact(yB.up fm).up DP
  ·exact(oC.up fm).up DP
  ·rw[ZS];exact ac0
  ·obtain⟨_,rfl⟩:=yB.ptr;obtain⟨_,rfl⟩:=oC.ptr;obtain⟨_,rfl,_⟩:=ac0;rename_i bJ bG _ _;cases bJ<;>cases bG<;>rfl
  ·exact fin YA cL aEe ((k'.mono aF).trans aEf) aEg aEh aEi
end
section
variable{ba:Nat}{aA:Nat->Nat}{lc cc:Value}{lp:bD}{k1:Option Addr}{k2:Nat}
theorem nY.cM(h:nY H0 cc lp.rows){i:Nat}(hi:i<lp.rows.length):∃base cap b off kO row vc,cc=.slice base lp.rows.length cap/\base=some ⟨b,off,none⟩/\H0.get b=some kO/\rowOf kO=some row/\cX row (off+i*5) 5=some ((lp.row i).cells vc)/\nX H0 vc (lp.row i).cM:=by
 obtain⟨base,cap,rfl,eU⟩:=h.at;obtain⟨b,off,kO,row,cs,ao,e2,bd,b1,r,vc,cK,rfl,il⟩:=eU i hi;have:=bD.Yq cK;subst this;exact⟨base,cap,b,off,kO,row,vc,rfl,ao,e2,bd,b1,il⟩
theorem aEj(al:hj X)(g0:cl pm H0)(ey:pm.lo<=ba)(aF:ba<=H0.next)(au:lp.ok)(hm:lp.dP=true){i:Nat}(hi:i<lp.rows.length)(aD:jL lp.aX ba H0 aA (.slice k1 lp.aj.length k2) cc (lp.aj.length+i) i lp.aj.length lp.fA)(an:nY H0 cc lp.rows){b0:Nat}{zb:dI}
 (fE:H0.get b0=some (.cells [.slice k1 lp.aj.length k2,cc] zb)) (LL:b0<ba)
 {L:bQ} (ck:a7 1 L=some (.pointer (some ⟨b0,0,none⟩))) (eT:a7 3 L=some (.pointer (some ⟨aA 0,0,none⟩))) (o3:a7 57 L=some cc) (q2:a7 58 L=some (.int .i64 (lp.rows.length:Int))) (pR:a7 59 L=some (.int .i64 (i:Int))) {Q:c'}
 (fin:∀l' H' eC,bp pm ba H0 H'->eC 0=aA 0->jL lp.aX ba H' eC (.slice k1 lp.aj.length k2) cc (lp.aj.length+(i+1)) (i+1) lp.aj.length lp.fA->Sub [(59,.int .i64 (i:Int)),(58,.int .i64 (lp.rows.length:Int)),(1,.pointer (some ⟨b0,0,none⟩)),(3,.pointer (some ⟨aA 0,0,none⟩)),(57,cc)] l'->Q .normal l' H'):
 wp X pm (.code (.seq (.aT [m 61 59,o 62 (.ho 5 (.t 57) (.t 59)),o 63 (.load true 5 (.t 62)),o 8 (.alloc tyR [(.string ⟨#[]⟩),(.int .i64 (.ofNat 0)),(.slice none 0 0),(.string ⟨#[]⟩),(.string ⟨#[]⟩)]),m 7 61,⟨none,none,.store 5 (.t 8) (.t 63)⟩]) TT)) L H0 [] Q:=by
 have j2:=au.c;obtain⟨base,cap,b',off,kO,row,vc,xN,rfl,e2,bd,b1,k9⟩:=nY.cM an hi;have lh:=fR (bD.rowAt hi);have dC:=zC hm lh;have dM:=au.rs _ lh;obtain⟨_,bh,cu,e9⟩:=Ck dC dM j2;have ld:=dM.1;obtain⟨r,jg⟩:=bZa (lp.row i);have TU:=CW (lp:=lp) (i:=i);have TV:=CX (lp:=lp) (i:=i);rw[<-jg]at dC dM bh cu e9 ld b1 k9 TU TV;obtain⟨cW,Yy,Oy,_⟩:=k9.at;obtain⟨xh,yU⟩:=bZa (H0.next);obtain⟨H1,cw⟩:=bZa ((H0.new (.cells [.string ⟨#[]⟩,.int .i64 0,.slice none 0 0,.string ⟨#[]⟩,.string ⟨#[]⟩] (.t tyR))).put xh (.cells [aW r.name,.int .i64 r.kind,.slice cW r.cM.length Yy,aW r.rhs,aW r.Ff] (.t tyR)));have av:=bYz g0 cw yU;have h4:H1.get xh=some (.cells (r.cells vc) (.t tyR)):=by rw[cw,Oy];exact dX
 have g1:=av.aL;have RA:=bYI yU;have xw:pm.may xh=true:=g0.may (by omega);rw[xN]at o3;rw[Oy]at b1;simp[o3,pR,hi,e2,bd,b1,g0.pick,g0.make,xw,RA,ptr,c5,di.cells,<-cw,<-yU,-TW,-TX];refine aR.bZb (vs:=[.int .i64 0]) (sE al.toOb g1 (n:=0) (by omega) (by omega)) ?_;rintro jW aJ ⟨aI,f0⟩;have g2:=aI.aL;obtain⟨DR,rfl,_⟩:=id f0;obtain⟨bx,pz⟩:=bZa (aJ.next);obtain⟨bN,iO⟩:=bZa ((aJ.new (.cells [.pointer none,.pointer none,.pointer none] (.t tyY))).put bx (.cells [.pointer none,.pointer none,.pointer (some ⟨DR,0,none⟩)] (.t tyY)));have aQ:=bYz g2 iO pz;have g3:=aQ.aL;have jP:=bZC iO;have h0:=aI.trans aQ;have jH:=av.trans h0;have LS:=h0.some g1 h4;have lU:=bYI pz;have qg:pm.may bx=true:=g2.may (by omega);have TY:H0.next<=bx:=by rw[pz];exact(av.trans aI).next
 have dr:xh≠bx:=by
  have:=(aI.next);have:=g1.lt h4;omega
 simp[g2.pick,g2.make,ptr,lU,<-pz,qg,c5,<-iO,LS,di.cells,-A2,-TZ]
 have rest:∀(cp:ah) (p:Option Addr) (L:bQ),K pm H0 cp->bp pm H0.next bN cp->cp.get xh=some (.cells (r.cells vc) (.t tyR))->cp.get bx=some (.cells [.pointer p,.pointer none,.pointer (some ⟨DR,0,none⟩)] (.t tyY))->ia cp (.pointer p) (lp.aX.lo (lp.aj.length+i))->
  a7 1 L=some (.pointer (some ⟨b0,0,none⟩))->a7 3 L=some (.pointer (some ⟨aA 0,0,none⟩))->a7 7 L=some (.int .i64 (i:Int))->a7 8 L=some (.pointer (some ⟨xh,0,none⟩))->a7 9 L=some (.pointer (some ⟨bx,0,none⟩))->a7 57 L=some cc->a7 58 L=some (.int .i64 (lp.rows.length:Int))->a7 59 L=some (.int .i64 (i:Int))->wp X pm (.code A2) L cp [] Q:=by
  intro cp p L bt eX LU vk aEk ck eT dO e3 pN o3 q2 pR;have g4:=bt.aL;have f4:=(f0.up aQ).up eX;have z:=λ(cV:ah) (pu:Option Addr) (L:bQ) (cd:K pm H0 cV) (hl:bp pm H0.next cp cV) (aEl:cV.get xh=some (.cells (r.cells vc) (.t tyR))) (xf:cV.get bx=some (.cells [.pointer p,.pointer pu,.pointer (some ⟨DR,0,none⟩)] (.t tyY))) (aEm:ia cV (.pointer pu) (lp.aX.up (lp.aj.length+i))) (ck:a7 1 L=some (.pointer (some ⟨b0,0,none⟩))) (eT:a7 3 L=some (.pointer (some ⟨aA 0,0,none⟩))) (dO:a7 7 L=some (.int .i64 (i:Int))) (e3:a7 8 L=some (.pointer (some ⟨xh,0,none⟩))) (pN:a7 9 L=some (.pointer (some ⟨bx,0,none⟩))) (o3:a7 57 L=some cc) (q2:a7 58 L=some (.int .i64 (lp.rows.length:Int))) (pR:a7 59 L=some (.int .i64 (i:Int)))=>
   aEa al g0 cd ey aF au hm hi aD (vc:=vc) (by rw[<-jg];exact k9) TY fE LL (by rw[<-jg];exact aEl) xf (by simpa using f4.up hl) (aEk.up hl) aEm ck eT dO e3 pN o3 q2 pR (Q:=Q) fin
  simp[e3,LU,di.cells,-T0,-A1];by_cases aq:r.kind=3
  ·have ai:(r.kind==3)=true:=by simpa using aq
   simp[ai,-A1];refine z cp none _ bt (bp.refl g4) LU vk (by rw[TV,bm aq];rfl) (by simp[ck]) (by simp[eT]) (by simp[dO]) (by simp[e3]) (by simp[pN]) (by simp[o3]) (by simp[q2]) (by simp[pR])
  ·have ai:(r.kind==3)=false:=by simpa using aq
   simp[ai,e3,LU,di.cells,-A1,-T1];refine aR.bZb (vs:=[aW r.rhs]) (Dt al g4 (by omega) λ_=>bh) ?_;rintro q cV ⟨cd,f5⟩;have xf:=cd.some g4 vk;obtain⟨DQ,rfl⟩:=f5.ptr;obtain⟨ep,mA⟩:=bZa (cV.put bx (.cells [.pointer p,.pointer DQ,.pointer (some ⟨DR,0,none⟩)] (.t tyY)));have kk:bp pm H0.next cV ep:=by rw[mA];exact bp.put (.refl cd.aL) TY xf (by simp) _
   simp[pN,xf,qg,<-mA,-A1];refine z ep DQ _ (bp.trans (K.trans bt cd) kk) ((cd.mono bt.next).trans kk) (by rw[mA,cq dr];exact cd.some g4 LU) (by rw[mA];exact dX) (by rw[TV,aU aq];exact f5.up kk) (by simp[ck]) (by simp[eT]) (by simp[dO]) (by simp[e3]) (by simp[pN]) (by simp[o3]) (by simp[q2]) (by simp[pR])
 by_cases U:r.kind=1
 ·have ai:(r.kind==1)=true:=by simpa using U
  simp[ai,-A2];refine rest bN none _ jH (bp.refl g3) LS jP (by rw[TU,bm U];rfl) (by simp[ck]) (by simp[eT]) (by simp) (by simp) (by simp) (by simp[o3,xN]) (by simp[q2]) (by simp[pR])
 ·have ai:(r.kind==1)=false:=by simpa using U
  simp[ai,LS,di.cells,-A2,-T2];refine aR.bZb (vs:=[aW r.rhs]) (Dt al g3 (by omega) λ_=>bh) ?_;rintro q cp ⟨bt,f4⟩;have vk:=bt.some g3 jP;obtain⟨DQ,rfl⟩:=f4.ptr;obtain⟨cV,r5⟩:=bZa (cp.put bx (.cells [.pointer DQ,.pointer none,.pointer (some ⟨DR,0,none⟩)] (.t tyY)));have hl:bp pm H0.next cp cV:=by rw[r5];exact bp.put (.refl bt.aL) TY vk (by simp) _
  simp[vk,qg,<-r5,-A2];refine rest cV DQ _ (bp.trans (K.trans jH bt) hl) ((bt.mono jH.next).trans hl) (by rw[r5,cq dr];exact bt.some g3 LS) (by rw[r5];exact dX) (by rw[TU,aU U];exact f4.up hl) (by simp[ck]) (by simp[eT]) (by simp) (by simp) (by simp) (by simp[o3,xN]) (by simp[q2]) (by simp[pR])
end
section
variable{ba:Nat}{aA:Nat->Nat}{lp:bD}
theorem aEn(al:hj X)(g:cl pm H)(au:lp.ok)(hm:lp.dP=true){lc cc:Value}(af:kI H lc lp.aj)(an:nY H cc lp.rows):
 Call X pm F.wW [.agg #[lc,cc]] H λr H'=>K pm H H'/\∃aA,r=.pointer (some ⟨aA 0,0,none⟩)/\dH lp.aX H.next H' aA lc cc lp.fA:=by
 refine Call.h6 al.wW rfl λQ bU=>?_;have j2:=au.c;have mM:=au.r;obtain⟨base,cap,rfl,_⟩:=af.at;obtain⟨dG,dE,rfl,_⟩:=an.at;obtain⟨b0,fE⟩:=bZa (H.next);obtain⟨H1,cw⟩:=bZa (H.new (.cells [.slice base lp.aj.length cap,.slice dG lp.rows.length dE] (.t tyB)));have av:=bZv g cw;have g1:=av.aL;have h4:=bZQ cw fE;have n1:=bV cw fE;obtain⟨a,aN⟩:=bZa (H1.next);obtain⟨aJ,ee⟩:=bZa (H1.new (.cells [.slice base lp.aj.length cap,.slice dG lp.rows.length dE,.slice none 0 0,.slice none 0 0,.slice none 0 0,.slice none 0 0] (.t tyT)));have aI:=bZv g1 ee;have eA:=bZQ ee aN;have rG:=aI.some g1 h4;have hb:=af.ext (av.ext g);have kb:=an.ext (av.ext g);have ey:pm.lo<=a:=by rw[aN];exact g1.lo
 have ut:∀{H':ah},K pm H1 H'->kI H' (.slice base lp.aj.length cap) lp.aj/\nY H' (.slice dG lp.rows.length dE) lp.rows/\H'.get b0=some (.cells [.slice base lp.aj.length cap,.slice dG lp.rows.length dE] (.t tyB)):=λk=>⟨hb.ext (k.ext g1),kb.ext (k.ext g1),k.some g1 h4⟩;simp[g.pick,g.make,ptr,<-fE,<-cw,h4,c5,cX,setCells,<-aN,<-ee,rG,-T3,-T4];have t0:jL lp.aX a aJ (λ_=>a) (.slice base lp.aj.length cap) (.slice dG lp.rows.length dE) 0 0 0 lp.fA:=by
  refine⟨eA,λh=>absurd h (Nat.lt_irrefl 0),λh=>absurd h (Nat.lt_irrefl 0),λh=>absurd h (Nat.lt_irrefl 0),λh=>absurd h (Nat.lt_irrefl 0),λi hi=>absurd hi (od _),λi j hi aH _=>?_,λ_ _=>bR _⟩;unfold Real at hi aH;omega
 refine gG (σ:=Unit) lp.aj.length (λ_ _=>[(1,.pointer (some ⟨b0,0,none⟩)),(3,.pointer (some ⟨a,0,none⟩)),(18,.slice base lp.aj.length cap)])
  (λk _ H'=>K pm H1 H'/\∃aA,aA 0=a/\jL lp.aX a H' aA (.slice base lp.aj.length cap) (.slice dG lp.rows.length dE) k 0 k lp.fA) () (by decide) (by omega) (by simp) ⟨aI,_,rfl,t0⟩ (by simp) ?_ ?_
 ·rintro k _ bN ag ⟨aQ,aA,eP,t3⟩;obtain⟨n8,z2,z3⟩:=ut aQ;refine aDE al aQ.aL ey (by rw[aN];exact aQ.next) au hm ag t3 (b0:=b0) n8 (by simp) (by simp[eP]) (by simp) (by simp) (by simp) λl' H' eC u b' ra ku=>?_;rw[eP]at ku;simp;refine⟨by simpa using ku,bp.trans aQ (u.mono (by omega)),eC,b'.trans eP,ra⟩
 ·rintro _ bN ⟨aQ,aA,eP,t3⟩;obtain⟨n8,z2,z3⟩:=ut aQ;simp[z3,-T5]
  refine gG (σ:=Unit) lp.rows.length (λ_ _=>[(1,.pointer (some ⟨b0,0,none⟩)),(3,.pointer (some ⟨a,0,none⟩)),(57,.slice dG lp.rows.length dE)])
   (λi _ H'=>K pm H1 H'/\∃aA,aA 0=a/\jL lp.aX a H' aA (.slice base lp.aj.length cap) (.slice dG lp.rows.length dE) (lp.aj.length+i) i lp.aj.length lp.fA) () (by decide) (by omega) (by simp) ⟨aQ,aA,eP,t3⟩ (by simp) ?_ ?_
  ·rintro i _ cp hi ⟨bt,aA,eP,t4⟩;obtain⟨n8,z2,z3⟩:=ut bt;refine aEj al bt.aL ey (by rw[aN];exact bt.next) au hm hi t4 z2 z3 (by omega) (by simp) (by simp[eP]) (by simp) (by simp) (by simp) λl' H' eC u b' ra ku=>?_;rw[eP]at ku;simp;refine⟨by simpa using ku,bp.trans bt (u.mono (by omega)),eC,b'.trans eP,ra⟩
  ·rintro _ cp ⟨bt,aA,eP,t4⟩;simp;obtain⟨eC,U,aa⟩:=jL.full (P:=lp.aX) t4 bt.aL (by rw[aN];exact bt.next);refine bU _ _ _ ?_;simp;exact⟨av.trans bt,eC,(U.trans eP).symm,aa.mono (by omega)⟩
end
abbrev tyA:Nat:=T.aEo
abbrev tySB:Nat:=T.aEp
structure iz where
 st:Int
 val:List UInt8
 x:List (List UInt8)
 d:List (List UInt8)
 r:List (List UInt8)
def ur(H:ah)(v:Value)(a:iz):Prop:=∃mC oM bYv,v=.agg #[.int .i64 a.st,aW a.val,mC,oM,bYv]/\kh H mC a.x/\kh H oM a.d/\kh H bYv a.r
theorem ur.ext{v:Value}{a:iz}(h:ur H v a)(e:Ext H H'):ur H' v a:=by
 obtain⟨mC,oM,bYv,rfl,U,aa,aq⟩:=h;exact⟨mC,oM,bYv,rfl,U.ext e,aa.ext e,aq.ext e⟩
theorem kh.nil:kh H (.slice none 0 0) []:=⟨none,0,rfl,λ_i hi=>absurd hi (od _)⟩
def bZM(H:ah)(ba:Nat)(v:Value)(l:List (List UInt8)):Prop:=kh H v l/\∀b off m cap,v=.slice (some ⟨b,off,none⟩) m cap->ba<=b/\∃y,H.get b=some y
theorem bZM.nil{ba:Nat}:bZM H ba (.slice none 0 0) []:=⟨.nil,λ_ _ _ _ h=>(by cases h)⟩
theorem bZM.ext{ba:Nat}{v:Value}{l:List (List UInt8)}(h:bZM H ba v l)(e:Ext H H'):bZM H' ba v l:=⟨h.1.ext e,λb o m c q=>⟨(h.2 b o m c q).1,(h.2 b o m c q).2.imp λ_ bu=>e _ _ bu⟩⟩
theorem bZM.mono{ba n1:Nat}{v:Value}{l:List (List UInt8)}(h:bZM H ba v l)(e:n1<=ba):bZM H n1 v l:=⟨h.1,λb o m c q=>⟨bH e (h.2 b o m c q).1,(h.2 b o m c q).2⟩⟩
theorem bZM.put{ba c:Nat}{v:Value}{l:List (List UInt8)}(h:bZM H ba v l)(af:c<ba)(x:cj):bZM (H.put c x) ba v l:=by
 refine⟨?_,λb o m cp q=>⟨(h.2 b o m cp q).1,(h.2 b o m cp q).2.imp λy bu=>by rw[cq (by have:=(h.2 b o m cp q).1;omega)];exact bu⟩⟩;obtain⟨base,cap,rfl,aa⟩:=h.1.ex;refine⟨base,cap,rfl,λi hi=>?_⟩;obtain⟨b,off,y,row,u,rfl,e2,bd⟩:=aa i hi;have:=(h.2 b off _ _ rfl).1;exact⟨b,off,y,row,u,rfl,by rw[cq (by omega)];exact e2,bd⟩
theorem gv.lJ{c k ba:Nat}{f:Nat->List UInt8}(h:gv H c k f)(af:ba<=c):bZM H ba (.slice (some ⟨c,0,none⟩) k k) ((List.range k).map f):=
 ⟨h.strs,λb o m cp e=>by
  cases e;obtain⟨ss,U,_⟩:=h;exact⟨af,_,U⟩⟩
def bYo(H:ah)(ba:Nat)(v:Value)(a:iz):Prop:=∃mC oM bYv,v=.agg #[.int .i64 a.st,aW a.val,mC,oM,bYv]/\bZM H ba mC a.x/\bZM H ba oM a.d/\bZM H ba bYv a.r
theorem bYo.ext{ba:Nat}{v:Value}{a:iz}(h:bYo H ba v a)(e:Ext H H'):bYo H' ba v a:=by
 obtain⟨mC,oM,bYv,rfl,U,aa,aq⟩:=h;exact⟨mC,oM,bYv,rfl,U.ext e,aa.ext e,aq.ext e⟩
theorem bYo.mono{ba n1:Nat}{v:Value}{a:iz}(h:bYo H ba v a)(e:n1<=ba):bYo H n1 v a:=by
 obtain⟨mC,oM,bYv,rfl,U,aa,aq⟩:=h;exact⟨mC,oM,bYv,rfl,U.mono e,aa.mono e,aq.mono e⟩
theorem bYo.put{ba c:Nat}{v:Value}{a:iz}(h:bYo H ba v a)(af:c<ba)(x:cj):bYo (H.put c x) ba v a:=by
 obtain⟨mC,oM,bYv,rfl,U,aa,aq⟩:=h;exact⟨mC,oM,bYv,rfl,U.put af x,aa.put af x,aq.put af x⟩
def nv(lp:bD)(T:b8):List (List UInt8):=(List.range lp.aX.n).map λj=>dB (T.v j)
def Q7(lp:bD)(T:b8):List (List UInt8):=(List.range lp.aX.m).map (rS lp.aX T (red lp.aX lp.cs T) lp.aX.n)
def Gb(lp:bD)(xs:List (List UInt8)):List UInt8:=match kN lp xs with
 | some v=>dB v
 | none=>[]
inductive CZ(lp:bD)(pS o4:b8->Prop):iz->Prop
 | inf (T:b8) (a:Nat):pS T->uC lp.aX T=some a->sP lp.aX T a (off lp.aX T.v (T.rows a))=none->CZ lp pS o4 ⟨2,[],[],(List.range lp.aX.m).map (qQ lp.aX T a),[]⟩
 | Q1 (T:b8) (col:Nat):o4 T->enters lp.aX lp.cs T=some col->(fv lp.aX T col (gl lp.aX lp.cs T col) lp.aX.m).gH=none->CZ lp pS o4 ⟨3,[],nv lp T,[],(List.range lp.aX.n).map (oX T col (gl lp.aX lp.cs T col) lp.aX.m)⟩
 | opt (T:b8):o4 T->enters lp.aX lp.cs T=none->CZ lp pS o4 ⟨1,Gb lp (nv lp T),nv lp T,Q7 lp T,[]⟩
structure Kh(lp:bD)(pS o4:b8->Prop)(t:Nat):Prop where
 t1:1<=t
 Ki:t<=20000
 s1:pS lp.fA
 g1:∀T,pS T->Inv lp.aX T/\l4 lp.aX T t/\Ends (rO lp.aX) T
 n1:∀T dY,pS T->rO lp.aX T=some dY->pS dY
 s2:∀T,pS T->uC lp.aX T=none->o4 T
 g2:∀T,o4 T->Inv lp.aX T/\l4 lp.aX T t/\Ends (pE lp.aX lp.cs) T
 n2:∀T dY,o4 T->pE lp.aX lp.cs T=some dY->o4 dY
 eH:∀T,o4 T->qy (nv lp T)
theorem cYw(al:hj X)(g:cl pm H){lp:bD}(au:lp.ok){v:Value}(aw:ps H v lp){pS o4:b8->Prop}{t:Nat}(dD:lp.dP=true->Kh lp pS o4 t):
 Call X pm F.w6 [v] H λr H'=>K pm H H'/\(lp.dP=false/\r=.tuple #[.agg #[.int .i64 0,aW [],.slice none 0 0,.slice none 0 0,.slice none 0 0],.bool false]∨lp.dP=true/\∃a u,r=.tuple #[u,.bool true]/\bYo H' H.next u a/\CZ lp pS o4 a):=by
 refine Call.h6 al.w6 rfl λQ bU=>?_;have iy:=aw;obtain⟨v1,v2,rfl,af,an⟩:=aw;obtain⟨base,cap,rfl,_⟩:=af.at;obtain⟨dG,dE,rfl,_⟩:=an.at;obtain⟨b0,fE⟩:=bZa (H.next);obtain⟨H1,cw⟩:=bZa (H.new (.cells [.slice base lp.aj.length cap,.slice dG lp.rows.length dE] (.t tySB)));have av:=bZv g cw;have g1:=av.aL;have h4:=bZQ cw fE;obtain⟨kl,wq⟩:=bZa (H1.next);obtain⟨aJ,ee⟩:=bZa (H1.new (.cells [.int .i64 0,.string ⟨#[]⟩,.slice none 0 0,.slice none 0 0,.slice none 0 0] (.t tyA)));have aI:=bZv g1 ee;have g2:=aI.aL;have eA:=bZQ ee wq;have rG:=aI.some g1 h4;have h8:=av.trans aI;have j6:=av.next;have x9:pm.may kl=true:=g.may (by omega);simp[g.pick,g.make,ptr,<-fE,<-cw,<-wq,<-ee,rG,cX,c5,-T6,-T7,-T8];refine aR.bZb (vs:=[.agg #[.slice base lp.aj.length cap,.slice dG lp.rows.length dE]]) (Fi al.tohC g2 (iy.ext (h8.ext g)) au) ?_;rintro _ bN ⟨aQ,rfl⟩;have g3:=aQ.aL;have jH:=h8.trans aQ;have LV:=aQ.some g2 eA;have C9:=aQ.some g2 rG
 cases hm:lp.dP with
 | false=>
   simp[LV,x9,setCells];refine bU _ _ _ ?_;simp[ik,c5,cX,hm];have:=bp.put (n:=H.next) (.refl g3) (show H.next<=kl by omega) LV (by simp) (.cells [.int .i64 0,.string ⟨#[]⟩,.slice none 0 0,.slice none 0 0,.slice none 0 0] (.t tyA));exact bp.trans jH this
 | true=>
   have R:=dD hm;simp[C9,cX,c5,-T9,-T'];refine aR.bZb (vs:=[.agg #[.slice base lp.aj.length cap,.slice dG lp.rows.length dE]]) (aEn al g3 au hm (af.ext (jH.ext g)) (an.ext (jH.ext g))) ?_;rintro _ zq1 ⟨bt,aA,rfl,t4⟩;have jY:=jH.trans bt;have g4:=bt.aL;have op:=lp.aDu;have dU:=op.ok au;have st:∀{H':ah},bp pm bN.next zq1 H'->K pm H H'/\kI H' (.slice base lp.aj.length cap) lp.aj/\nY H' (.slice dG lp.rows.length dE) lp.rows/\H'.get kl=some (.cells [.int .i64 0,.string ⟨#[]⟩,.slice none 0 0,.slice none 0 0,.slice none 0 0] (.t tyA))/\H'.get b0=some (.cells [.slice base lp.aj.length cap,.slice dG lp.rows.length dE] (.t tySB)):=λu=>by
    have Ua:K pm bN _:=bp.trans bt u;have Ub:=K.trans jH Ua;exact⟨Ub,af.ext (Ub.ext g),an.ext (Ub.ext g),Ua.some g3 LV,Ua.some g3 C9⟩
   simp[-Uc,-Ud,-Ue];refine aR.bZb (vs:=[.pointer (some ⟨aA 0,0,none⟩)]) (aDe al g4 g3.lo bt.next dU pS R.t1 R.Ki R.g1 R.n1 t4 R.s1) ?_;rintro _ cV ⟨Uf,hl,t5,Ug,cg⟩;have g5:=hl.aL;obtain⟨sH,Hc,vN,aEq,aHw⟩:=st hl;obtain⟨aEr,aEs,_⟩:=R.g1 Uf Ug;have rt:=R.Ki;have put:∀{H':ah} (cs:List Value),K pm H H'->H'.get kl=some (.cells [.int .i64 0,.string ⟨#[]⟩,.slice none 0 0,.slice none 0 0,.slice none 0 0] (.t tyA))->K pm H (H'.put kl (.cells cs (.t tyA)))/\bp pm H.next H' (H'.put kl (.cells cs (.t tyA))):=λcs k e=>by
    have u:=bp.put (n:=H.next) (.refl k.aL) (show H.next<=kl by omega) e (by simp) (.cells cs (.t tyA));exact⟨bp.trans k u,u⟩
   have eP:∀c,zq1.next<=c->kl≠c:=λc af=>by
    have:=g3.lt LV;have:=bt.next;omega
   rcases cg with⟨hw,rfl⟩ | ⟨a,hw,c9,rfl⟩
   ·simp[-Uh,-Ui,-Uj];refine aR.bZb (vs:=[.pointer (some ⟨aA 0,0,none⟩)]) (aDk al g5 g3.lo (bH bt.next hl.next) au hm op Hc (λH' u=>(st (hl.trans u)).2.1) o4 R.t1 R.Ki R.g2 R.n2 t5 (R.s2 Uf Ug hw)) ?_;rintro _ ep ⟨o5,kk,t6,LW,dj⟩;have Uk:=hl.trans kk;have g6:=Uk.aL;obtain⟨G8,Hd,NS,DS,aEt⟩:=st Uk;obtain⟨Ul,He,_⟩:=R.g2 o5 LW;have Q6:=Uk.next
    rcases dj with⟨he,rfl⟩ | ⟨col,he,iE,rfl⟩
    ·simp[-Um,-Un];refine aR.bZb (vs:=[.pointer (some ⟨aA 0,0,none⟩)]) (acE al g6 au op t6 Hd rt He) ?_;rintro _ hM ⟨dJ,c,rfl,aEu,LX⟩;have wv:=G8.trans dJ;have aEv:=dJ.some g6 aEt;have aHx:=dJ.some g6 DS;have g7:=dJ.aL;simp[aEv,cX,c5,-Uo,-Up];refine aR.bZb (vs:=[.agg #[.slice base lp.aj.length cap,.slice dG lp.rows.length dE],.slice (some ⟨c,0,none⟩) lp.aX.n lp.aX.n]) (Yg al.tohC g7 (iy.ext (wv.ext g)) au LX.strs (R.eH o5 LW)) ?_;rintro _ ns ⟨jZ,rfl⟩;have A3:=dJ.trans jZ;have g8:=jZ.aL;have Gu:oK (kN lp (nv lp o5))=.tuple #[aW (Gb lp (nv lp o5)),.bool (kN lp (nv lp o5)).isSome]:=by
      unfold Gb;cases kN lp (nv lp o5)<;>rfl
     rw[show(List.map (λj=>dB (o5.v j)) (List.range lp.aX.n))=nv lp o5 from rfl,Gu];simp[-Uq];refine aR.bZb (vs:=[.pointer (some ⟨aA 0,0,none⟩)]) (acv al g8 au hm op (t6.k g6 A3) (Hd.ext (A3.ext g6)) Ul.bj (t:=t) (by omega) He) ?_;rintro d yf ⟨ux,aB⟩;have Hf:=A3.trans ux;have g9:=ux.aL;have G1:∀k,k<lp.aX.n->sz (red lp.aX lp.cs o5 k) 10000000:=λk ag=>ff (Lp au op He ag (bR _)) (by
      have mM:=dU.m;have:lp.aX.m*(10001+t)<=40*30001:=ie mM (by omega);omega)
     simp[-Ur];refine aR.bZb (vs:=[.pointer (some ⟨aA 0,0,none⟩),d]) (acF al g9 au op (t6.k g6 Hf) (Hd.ext (Hf.ext g6)) (NS.ext (Hf.ext g6)) Ul.bj aB (td:=10000000) (by omega) G1) ?_;rintro _ aHy ⟨ac1,e,rfl,aEw,aEx⟩;have ac2:=Hf.trans ac1;have ac3:=ac2.some g6 DS;have aHz:=A3.next;have aHA:=Hf.next;obtain⟨bJ,bG⟩:=put [.int .i64 1,aW (Gb lp (nv lp o5)),.slice (some ⟨c,0,none⟩) lp.aX.n lp.aX.n,.slice (some ⟨e,0,none⟩) lp.aX.m lp.aX.m,.slice none 0 0] (G8.trans ac2) ac3;simp[ac3,x9,setCells,c5];refine bU _ _ _ ?_;simp[ik,cX,c5,hm];refine⟨bJ,_,?_,.opt o5 LW he⟩;have LM:=jY.next;exact⟨_,_,_,rfl,((LX.k g7 (jZ.trans (ux.trans ac1))).h7 (eP c (by omega)) _).lJ (by omega),(aEx.h7 (eP e (by omega)) _).lJ (by omega),.nil⟩
    ·have d':=GL he;simp[-Us];refine aR.bZb (vs:=[.pointer (some ⟨aA 0,0,none⟩)]) (acE al g6 au op t6 Hd rt He) ?_;rintro _ hM ⟨dJ,c,rfl,aEu,LX⟩;have g7:=dJ.aL;obtain⟨d',gy,_⟩:=zWd he;simp only[cG,eh]at gy;have eo:gl lp.aX lp.cs o5 col=1∨gl lp.aX lp.cs o5 col=-1:=by
      unfold gl
      rcases lq gy.1 with⟨_,e⟩ | ⟨_,e⟩<;>rw[e]<;>simp
     simp[-Ut];refine aR.bZb (vs:=[.pointer (some ⟨aA 0,0,none⟩),.int .i64 (col:Int),.int .i64 (gl lp.aX lp.cs o5 col)]) (aDs al g7 au op (t6.k g6 dJ) (Hd.ext (dJ.ext g6)) Ul.bj rt He d' eo) ?_;rintro _ ns ⟨jZ,e,rfl,aEw,Ty⟩;have A3:=dJ.trans jZ;have ac4:=A3.some g6 DS;have aHB:=dJ.next;obtain⟨bJ,bG⟩:=put [.int .i64 3,.string ⟨#[]⟩,.slice (some ⟨c,0,none⟩) lp.aX.n lp.aX.n,.slice none 0 0,.slice (some ⟨e,0,none⟩) lp.aX.n lp.aX.n] (G8.trans A3) ac4;simp[ac4,x9,setCells,c5];refine bU _ _ _ ?_;simp[ik,cX,c5,hm];refine⟨bJ,_,?_,.Q1 o5 col LW he iE⟩;have LM:=jY.next;exact⟨_,_,_,rfl,((LX.k g7 jZ).h7 (eP c (by omega)) _).lJ (by omega),.nil,(Ty.h7 (eP e (by omega)) _).lJ (by omega)⟩
   ·obtain⟨aN,_⟩:=zWd hw;simp[-Uu];refine aR.bZb (vs:=[.pointer (some ⟨aA 0,0,none⟩),.int .i64 (a:Int)]) (aDp al g5 au op t5 Hc vN aEr.bj rt aEs aN) ?_;rintro _ ep ⟨cv,c,rfl,aHC,Tt⟩;have DS:=cv.some g5 aEq;have aye:=hl.next;obtain⟨bJ,bG⟩:=put [.int .i64 2,.string ⟨#[]⟩,.slice none 0 0,.slice (some ⟨c,0,none⟩) lp.aX.m lp.aX.m,.slice none 0 0] (sH.trans cv) DS;simp[DS,x9,setCells,c5];refine bU _ _ _ ?_;simp[ik,cX,c5,hm];refine⟨bJ,_,?_,.inf Uf a Ug hw c9⟩;have LM:=jY.next;exact⟨_,_,_,rfl,.nil,(Tt.h7 (eP c (by omega)) _).lJ (by omega),.nil⟩
def jj:Option Rat->List UInt8
 | some q=>dB q
 | none=>[]
structure iz.ok(a:iz):Prop where
 x:qy a.x
 d:qy a.d
 r:qy a.r
end Go.Dam.C
namespace Go.Dam.C
section
variable{P:cr}{c:Nat->Rat}{T:b8}
def mG(P:cr)(v:Nat->Rat)(x:Nat):Prop:=v x=0∨P.lo x=some (v x)∨P.up x=some (v x)
structure j0(P:cr)(s:Nat->Nat)(T:b8):Prop where
 inv:Inv P T
 Ae:h9 P s T≠0
 at':∀k,k<P.n->mG P T.v (T.aj k)
theorem azy{a col:Nat}(h:Inv P T)(g:wA P T a col)(aN:∀k,k<P.n->mG P T.v (T.aj k)):∀k,k<P.n->mG P (l2 P T a col).v ((l2 P T a col).aj k):=by
 intro k ag;show mG P (l2 P T a col).v (if k=col then T.rows a else T.aj k);by_cases e:k=col
 ·rw[bm e];unfold mG;rw[Qr h g];unfold goal
  rcases yj g.off with⟨ao,l,aO,_⟩ | ⟨ao,u,hu,_⟩
  ·rw[ao,aU (by decide),aO];exact .inr (.inl rfl)
  ·rw[ao,bm (by decide),hu];exact .inr (.inr rfl)
 ·rw[aU e];have:(l2 P T a col).v (T.aj k)=T.v (T.aj k):=by
   show(T.iC P col _).v (T.aj k)=_;rw[CQ h.bj g.af ag,aU e]
  have U:=aN k ag;unfold mG at U|-;rw[this];exact U
theorem j0.fit{s:Nat->Nat}(aG:∀x,1<=s x)(h:j0 P s T){a col:Nat}(g:wA P T a col):j0 P s (l2 P T a col):=
 ⟨Zl h.inv g,ZG (T:=T.iC P col (z' P T a col)) aG (h.inv.iC g.af _) g.aN g.af g.uD h.Ae,azy h.inv g h.at'⟩
theorem kT.azz(h:Inv P T){col:Nat}{way:Int}{f:jI}{q:Rat}(g:kT P c T col way f q)(aN:∀k,k<P.n->mG P T.v (T.aj k)):∀k,k<P.n->mG P (l3 P T col way q f.ind).v ((l3 P T col way q f.ind).aj k):=by
 intro k ag
 cases hi:f.ind with
 | none=>
   have aw:=g.FV h.bj ag;rw[hi]at aw;show mG P (l3 P T col way q none).v (T.aj k);by_cases e:k=col
   ·subst e;rw[bm rfl]at aw;have an:=(g.ej.own hi).1;rw[g.gH]at an;unfold mG;rw[aw]
    rcases g.cS with rfl | rfl
    ·obtain⟨u,U,aa⟩:=FQ an.symm;refine .inr (.inr ?_);rw[U];congr 1;simp;grind
    ·obtain⟨u,U,aa⟩:=FR an.symm;refine .inr (.inl ?_);rw[U];congr 1;simp;grind
   ·rw[aU e]at aw;have U:=aN k ag;unfold mG at U|-;rw[aw];exact U
 | some a=>
   obtain⟨cx,a2,a3,r,a4,a5⟩:=g.ej.row a hi;show mG P (l3 P T col way q (some a)).v (if k=col then T.rows a else T.aj k);by_cases e:k=col
   ·rw[bm e];have aw:=g.Zt h.bj cx;rw[hi]at aw;rw[g.gH]at a5;have aC:=oU a2;have aV:e4 (T.M a col)*q=r:=by
     have:q=r/e4 (T.M a col):=bYd a5;have aD:e4 (T.M a col)≠0:=by grind
     grind
    unfold mG;rw[aw]
    rcases CR g.cS a2 with⟨ao,e2⟩ | ⟨ao,e2⟩<;>rw[ao]at a4<;>rw[e2]
    ·obtain⟨u,U,aa⟩:=FQ a4;refine .inr (.inr ?_);rw[U];congr 1;grind
    ·obtain⟨u,U,aa⟩:=FR a4;refine .inr (.inl ?_);rw[U];congr 1;grind
   ·rw[aU e];have aw:=g.FV h.bj ag;rw[hi,aU e]at aw;have U:=aN k ag;unfold mG at U|-;rw[aw];exact U
theorem j0.desc{s:Nat->Nat}(aG:∀x,1<=s x)(h:j0 P s T){col:Nat}{way:Int}{f:jI}{q:Rat}(g:kT P c T col way f q):j0 P s (l3 P T col way q f.ind):=by
 refine⟨g.inv h.inv,?_,g.azz h.inv h.at'⟩
 cases hi:f.ind with
 | none=>exact h.Ae
 | some a=>
   obtain⟨cx,a2,_⟩:=g.ej.row a hi;exact ZG (T:=T.iC P col _) aG (h.inv.iC g.af _) cx g.af a2 h.Ae
structure F0(P:cr)(V:Nat):Prop where
 v1:1<=V
 lo:∀x l,P.lo x=some l->cP V l
 up:∀x u,P.up x=some u->cP V u
theorem Af{V:Nat}(h:1<=V):cP V 0:=⟨by simp,h⟩
theorem mG.cP{V:Nat}(eI:F0 P V){v:Nat->Rat}{x:Nat}(h:mG P v x):cP V (v x):=by
 rcases h with h | h | h
 ·rw[h];exact Af eI.v1
 ·exact eI.lo x _ h
 ·exact eI.up x _ h
structure ZL(P:cr)(c:Nat->Rat)(S E iS:Nat):Prop where
 p:1<=iS
 le:iS<=S
 z:∀j,j<P.n->fz ((iS:Rat)*c j) E
def wC(P:cr)(s:Nat->Nat)(T:b8):Prop:=j0 P s T/\Aa P T
def uG(P:cr)(s:Nat->Nat)(T:b8):Prop:=j0 P s T/\uE P T
theorem wC.next{s:Nat->Nat}(aG:∀x,1<=s x)(azA:FN P){dY:b8}(h:wC P s T)(e:rO P T=some dY):wC P s dY:=by
 obtain⟨a,col,g,rfl⟩:=Zk e;exact⟨h.1.fit aG g,Zm azA h.1.inv h.2 g⟩
theorem uG.next{s:Nat->Nat}(aG:∀x,1<=s x){dY:b8}(h:uG P s T)(e:pE P c T=some dY):uG P s dY:=by
 obtain⟨col,way,f,q,g,rfl⟩:=Zr e;exact⟨h.1.desc aG g,g.Qt h.1.inv h.2⟩
theorem wC.two{s:Nat->Nat}(h:wC P s T)(e:uC P T=none):uG P s T:=by
 refine⟨h.1,λx az=>?_⟩
 rcases h.1.inv.bj.mE x az with⟨i,hi,rfl⟩ | ⟨k,ag,rfl⟩
 ·have:=FI e i hi;exact Zh (by simpa using this)
 ·exact h.2 k ag
theorem uG.ends{s:Nat->Nat}{S E V iS:Nat}(aG:rR P s S E)(eI:F0 P V)(af:ZL P c S E iS)(h:uG P s T):Ends (pE P c) T:=
 azm (uG P s) (λ_T _dY h e=>h.next aG.pos e) (λ_T h=>⟨h.1.inv,h.2⟩) (λ_T h=>azx aG h.1.inv h.1.Ae eI.v1 (λk ag=>(h.1.at' k ag).cP eI) af.p af.le af.z) h
theorem j0.QI{s:Nat->Nat}{S E V:Nat}(aG:rR P s S E)(eI:F0 P V)(h:j0 P s T){x:Nat}(az:x<P.n+P.m):cP (qN P.n ((P.n*E)^P.n) S V+V) (T.v x):=
 C.QI aG h.inv h.Ae eI.v1 (λk ag=>(h.at' k ag).cP eI) az
end
def n3:List fb->Nat->Rat
 | [],_=>0
 | c::l,j=>n3 l j+if j=c.col.toNat then rd c.v else 0
theorem ZM{n:Int}:∀{l:List fb} {last:Int} {f:Nat->Rat},-1<=last->jE n last l=true->(∀j:Nat,last<(j:Int)->f j=0)->∀j,l.foldl mT f j=f j+n3 l j
 | [],_,f,_,_,_,j=>by simp[n3,bYG]
 | c::l,last,f,aO,h,bc,j=>by
   simp only[jE,cG,eh]at h;obtain⟨U,_,aq,a8,cg⟩:=h;have af:(c.col.toNat:Int)=c.col:=by omega
   have aD:f c.col.toNat=0:=bc _ (by omega);rw[bWj,ZM (last:=c.col) (by omega) cg λk ag=>?_]
   ·show(if j=c.col.toNat then rd c.v else f j)+n3 l j=f j+(n3 l j+if j=c.col.toNat then rd c.v else 0);by_cases e:j=c.col.toNat
    ·rw[bm e,bm e,e,aD];grind
    ·rw[aU e,aU e];grind
   ·show(if k=c.col.toNat then rd c.v else f k)=0;rw[aU (by omega)];exact bc k (by omega)
theorem azB{n:Int}{l:List fb}(h:jE n (-1) l=true)(j:Nat):nu l j=n3 l j:=by
 rw[nu,ZM (Int.le_refl _) h λ_ _=>rfl,bVY]
theorem QK:∀{l:List fb} {f:Nat->Rat} (j:Nat),l.foldl mT f j=f j∨∃c∈l,l.foldl mT f j=rd c.v
 | [],f,j=>.inl rfl
 | c::l,f,j=>by
   rw[bWj]
   rcases QK (l:=l) (f:=mT f c) j with h | ⟨d,aB,h⟩
   ·rw[h];unfold mT;split
    ·exact .inr ⟨c,.head _,rfl⟩
    ·exact .inl rfl
   ·exact .inr ⟨d,.tail _ aB,h⟩
theorem ZN{n:Nat}{x:Nat->Rat}:∀{l:List fb},(∀c∈l,0<=c.col/\c.col<n)->ix l x=bs (λj=>n3 l j*x j) n
 | [],_=>(rN λi _=>by simp[n3]).symm
 | c::l,h=>by
   obtain⟨U,aa⟩:=h c (.head _);have e:bs (λj=>n3 (c::l) j*x j) n=bs (λj=>n3 l j*x j+(if j=c.col.toNat then rd c.v else 0)*x j) n:=eB λj _=>by
    show(n3 l j+_)*x j=_;grind
   have e2:bs (λj=>(if j=c.col.toNat then rd c.v else 0)*x j) n=rd c.v*x c.col.toNat:=by
    rw[qL (j:=c.col.toNat) (by omega) λi _ aF=>by rw[aU aF,lE],bm rfl]
   rw[e,pC,ix,ZN λd aB=>h d (.tail _ aB),e2]
theorem ZO{y:Rat}:∀{l:List fb} {d:Nat->Rat} (j:Nat),ni l y d j=d j-y*n3 l j
 | [],d,j=>by simp[ni,n3];grind
 | c::l,d,j=>by
   have:ni (c::l) y d j=ni l y (rC y d c) j:=rfl;rw[this,ZO];show(if j=c.col.toNat then d j-rd c.v*y else d j)-y*n3 l j=d j-y*(n3 l j+if j=c.col.toNat then rd c.v else 0);split<;>grind
section
variable{lp:bD}
theorem ZP{r:di}{n:Nat}(h:k8 r n=true):jE n (-1) r.cM=true/\∀c∈r.cM,0<=c.col/\c.col<n:=by
 simp only[k8,cG]at h;refine⟨h.1,λc af=>?_⟩;obtain⟨_,aa,aq⟩:=(Fk h.1).1 c af;exact⟨by omega,aq⟩
theorem Kb(hm:lp.dP=true){i:Nat}(hi:i<lp.rows.length):k8 (lp.row i) lp.aj.length=true:=zC hm (fR (bD.rowAt hi))
theorem azC(hm:lp.dP=true){i:Nat}(hi:i<lp.aj.length):nf (lp.col i)=true:=Ci hm (fR (bD.Cn hi))
theorem ZQ(hm:lp.dP=true){i:Nat}(hi:i<lp.rows.length)(j:Nat):lp.aX.A i j=n3 (lp.row i).cM j:=azB (ZP (Kb hm hi)).1 j
theorem F1(hm:lp.dP=true){i:Nat}(hi:i<lp.rows.length)(x:Nat->Rat):ix (lp.row i).cM x=bs (λj=>lp.aX.A i j*x j) lp.aj.length:=by
 rw[ZN (ZP (Kb hm hi)).2];exact eB λj _=>by rw[ZQ hm hi]
theorem ZR(hm:lp.dP=true){bZs:Bool}{y:Nat->Rat}:∀{k:Nat},k<=lp.rows.length->∀j,wh lp bZs y k j=d0 lp bZs j-bs (λi=>y i*lp.aX.A i j) k
 | 0,_,j=>by
   show d0 lp bZs j=_;simp only[bs];grind
 | k+1,ag,j=>by
   show ni (lp.row k).cM (y k) (wh lp bZs y k) j=_;rw[ZO,ZR hm (by omega),bs,ZQ hm (by omega)];grind
theorem azD:fh lp.aX lp.fA where
 r:=λi hi=>by show lp.aj.length+i<lp.aj.length+lp.rows.length;exact Nat.add_lt_add_left hi _
 c:=λk ag=>by show k<lp.aj.length+lp.rows.length;exact hR ag (hS _ _)
 qM:=λi j _ _ e=>by have e:lp.aj.length+i=lp.aj.length+j:=e;omega
 ci:=λi j _ _ e=>e
 rc:=λi k _ ag e=>by have e:lp.aj.length+i=k:=e;have ag:k<lp.aj.length:=ag;omega
 mE:=λx az=>by
  have az:x<lp.aj.length+lp.rows.length:=az;by_cases h:x<lp.aj.length
  ·exact .inr ⟨x,h,rfl⟩
  ·exact .inl ⟨x-lp.aj.length,by show x-lp.aj.length<lp.rows.length;omega,by show lp.aj.length+(x-lp.aj.length)=x;omega⟩
theorem azE(hm:lp.dP=true):Inv lp.aX lp.fA where
 bj:=azD
 fJ:=λz=>Iff.rfl
 val:=λi hi=>by
  show lp.fA.v (lp.aj.length+i)=_;rw[ZS,F1 hm hi];exact eB λj aH=>by rw[show lp.fA.v j=lp.v0 j from bm aH]
 sum:=λf=>rfl
theorem sU{l:List UInt8}{q:Rat}(h:gT l=some q):l≠[]/\q=rd l:=by
 unfold gT at h;split at h
 ·cases h
 ·cases h;exact⟨‹_›,rfl⟩
theorem QM(hm:lp.dP=true):FN lp.aX:=by
 intro x l u aO hu;by_cases h:x<lp.aj.length
 ·rw[Ag h]at aO;rw[Ah h]at hu;obtain⟨ck,rfl⟩:=sU aO;obtain⟨fQ,rfl⟩:=sU hu;have:=azC hm h;simp only[nf,cG,nE,eh]at this;obtain⟨_,_,_,a8⟩:=this
  rcases a8 with a8 | a8 | a8
  ·exact absurd (by simpa using a8) ck
  ·exact absurd (by simpa using a8) fQ
  ·exact a8
 ·obtain⟨i,rfl⟩:∃i,x=lp.aj.length+i:=⟨x-lp.aj.length,by omega⟩;rw[CW]at aO;rw[CX]at hu;split at aO
  ·cases aO
  ·split at hu
   ·cases hu
   ·obtain⟨_,rfl⟩:=sU aO;obtain⟨_,rfl⟩:=sU hu;exact k3
end
theorem F2{l:List UInt8}{k:Nat}(h:l.length<=k):cP (10^k) (rd l):=by
 have U:1<=10^k:=bWk _ _ (by decide);unfold rd
 cases e:jD l with
 | none=>exact Af U
 | some q=>
   unfold jD qu at e;split at e
   ·rename_i af;obtain⟨g1,g2,g3,g4⟩:=af;simp only[a6]at e;have aB:∀{l:List UInt8},je l=true->fi l<10^l.length:=λ{l} h=>by
     unfold je at h;simp at h;exact Kc (by rw[hz];exact h.2.2.2)
    have cy:=@X5 (kK l).2;have dd:=@X6 l;have cx:=aB g1;have a2:=aB g2;by_cases aD:k=0
    ·have:l.length=0:=by omega
     obtain rfl:l=[]:=List.length_eq_zero_iff.1 this;simp[kK,oI,je]at g1
    ·have bJ:10^(oI (kK l).2).1.length<=10^k:=iH (by decide) (by omega);have bG:10^(oI (kK l).2).2.length<=10^k:=iH (by decide) (by omega);rw[<-e];simp only[bYc];exact⟨by rw[IU g3];exact bH (oe _ _) (by omega),by rw[IT g3];exact bH (oe _ _) (by omega)⟩
   ·cases e
structure iA(lp:bD):Prop where
 n:lp.aj.length<=6
 m:lp.rows.length<=12
 c:∀c∈lp.aj,c.low.length<=30/\c.up.length<=30/\c.cost.length<=30
 r:∀r∈lp.rows,r.rhs.length<=30/\r.cM.length<=1000000/\∀c∈r.cM,c.v.length<=30
section
variable{lp:bD}
theorem iA.ok(h:iA lp):lp.ok:=by
 refine⟨by have:=h.n;omega,by have:=h.m;omega,λc af=>?_,λr an=>?_⟩
 ·obtain⟨U,aa,aq⟩:=h.c c af;exact⟨by omega,by omega,by omega⟩
 ·obtain⟨U,aa,aq⟩:=h.r r an;exact⟨by omega,aa,λc af=>by have:=aq c af;show c.v.length<=10000;omega⟩
abbrev hc:Nat:=10^30
theorem Kd{l:List UInt8}(h:l.length<=30){q:Rat}(e:gT l=some q):cP hc q:=by
 obtain⟨_,rfl⟩:=sU e;exact F2 h
theorem F3(h:iA lp)(i:Nat):(lp.row i).rhs.length<=30/\∀c∈(lp.row i).cM,c.v.length<=30:=by
 by_cases hi:i<lp.rows.length
 ·obtain⟨U,_,aq⟩:=h.r _ (fR (bD.rowAt hi));exact⟨U,aq⟩
 ·have:lp.row i=⟨[],1,[],[],[]⟩:=by rw[bD.row,ob,jq (by omega)];rfl
  rw[this];exact⟨by simp,by simp⟩
theorem yn(h:iA lp)(i:Nat):(lp.col i).low.length<=30/\(lp.col i).up.length<=30/\(lp.col i).cost.length<=30:=by
 by_cases hi:i<lp.aj.length
 ·exact h.c _ (fR (bD.Cn hi))
 ·have:lp.col i=⟨[],[],[],[],false⟩:=by rw[bD.col,ob,jq (by omega)];rfl
  rw[this];exact⟨by simp,by simp,by simp⟩
theorem iA.F4(h:iA lp):F0 lp.aX hc:=by
 refine⟨by decide,λx l e=>?_,λx u e=>?_⟩
 ·have e:(if x<lp.aj.length then gT (lp.col x).low else if(lp.row (x-lp.aj.length)).kind=1 then none else gT (lp.row (x-lp.aj.length)).rhs)=some l:=e;split at e
  ·exact Kd (yn h x).1 e
  ·split at e
   ·cases e
   ·exact Kd (F3 h _).1 e
 ·have e:(if x<lp.aj.length then gT (lp.col x).up else if(lp.row (x-lp.aj.length)).kind=3 then none else gT (lp.row (x-lp.aj.length)).rhs)=some u:=e;split at e
  ·exact Kd (yn h x).2.1 e
  ·split at e
   ·cases e
   ·exact Kd (F3 h _).1 e
theorem iA.QN(h:iA lp)(i j:Nat):cP hc (lp.aX.A i j):=by
 rcases QK (l:=(lp.row i).cM) (f:=λ_=>0) j with e | ⟨c,af,e⟩
 ·show cP hc (nu _ j);rw[nu,e];exact Af (by decide)
 ·show cP hc (nu _ j);rw[nu,e];exact F2 ((F3 h i).2 c af)
def hE(lp:bD)(x:Nat):Nat:=if x<lp.aj.length then 1 else sT (λj=>(lp.aX.A (x-lp.aj.length) j).den) lp.aj.length
def uH(n:Nat):Nat:=hc^n
def oW(n:Nat):Nat:=hc*hc^n
theorem iA.hE(h:iA lp):rR lp.aX (hE lp) (uH lp.aj.length) (oW lp.aj.length):=by
 have aC:1<=hc^lp.aj.length:=bWk _ _ (by decide);refine⟨λx=>?_,λx=>?_,λx az=>bm az,λx j az aH=>?_⟩
 ·unfold C.hE;split
  ·exact bR _
  ·exact J8 (λi=>Rat.den_pos _) _
 ·unfold C.hE;split
  ·exact aC
  ·exact CV λj _=>(h.QN _ j).2
 ·by_cases qO:x<lp.aj.length
  ·have ao:C.hE lp x=1:=bm qO;have e2:form lp.aX x j=if x=j then 1 else 0:=bm qO
   have bz:1<=oW lp.aj.length:=bXS (by decide) aC;rw[ao,e2];split
   ·exact⟨1,by simp,bz⟩
   ·exact⟨0,by simp,Nat.zero_le _⟩
  ·have ao:C.hE lp x=sT (λj=>(lp.aX.A (x-lp.aj.length) j).den) lp.aj.length:=aU qO;have e2:form lp.aX x j=lp.aX.A (x-lp.aj.length) j:=aU qO;rw[ao,e2,bWL];exact J9 (h.QN _ j) (FZ (f:=λj=>(lp.aX.A (x-lp.aj.length) j).den) aH) (CV λj _=>(h.QN _ j).2)
theorem iA.Ke(h:iA lp):ZL lp.aX lp.cs (uH lp.aj.length) (oW lp.aj.length) (sT (λj=>(lp.cs j).den) lp.aj.length):=by
 refine⟨J8 (λi=>Rat.den_pos _) _,CV λj _=>(F2 (yn h j).2.2).2,λj aH=>?_⟩;rw[bWL];exact J9 (F2 (yn h j).2.2) (FZ (f:=λj=>(lp.cs j).den) aH) (CV λj _=>(F2 (yn h j).2.2).2)
theorem ZT{n:Nat}:∀(d k:Nat) (w:Nat->Rat),k+d<=n->(∀j,k<=j->w j=1)->fZ n ((List.range' k d).map λi j=>if i=j then(1:Rat) else 0) w=1
 | 0,_,_,_,_=>rfl
 | d+1,k,w,ag,hw=>by
   rw[List.range'_succ,bWO,fZ,qL (j:=k) (by omega) λi _ aF=>by rw[aU (Ne.symm aF),lE,lE],bm rfl,hw k (bR _),ZT d (k+1) _ (by omega) λj aH=>?_]
   ·grind
   ·rw[hw j (by omega),ko,bm (by omega)];grind
theorem azF(_h:iA lp):h9 lp.aX (hE lp) lp.fA≠0:=by
 have e:h9 lp.aX (hE lp) lp.fA=1:=by
  rw[h9,List.range_eq_range'];refine(QC (A':=(List.range' 0 lp.aX.n).map λi j=>if i=j then(1:Rat) else 0) _ (by simp) λi r r' e bw j aH=>?_).trans (ZT (n:=lp.aX.n) lp.aX.n 0 (λ_=>1) (by omega) λ_ _=>rfl);simp only[bZV,A9]at e bw;obtain⟨a,aN,rfl⟩:=e;obtain⟨a',pD,rfl⟩:=bw;rw[aN]at pD;cases pD;have J4:=fR aN;have F5:a<lp.aj.length:=by
   have:=List.mem_range'_1.1 J4;have aa:a<0+lp.aX.n:=this.2;have aq:lp.aX.n=lp.aj.length:=rfl;omega
  show((C.hE lp a:Nat):Rat)*form lp.aX a j=if a=j then 1 else 0
  rw[show C.hE lp a=1 from bm F5,show form lp.aX a j=if a=j then 1 else 0 from bm F5];have U:((1:Nat):Rat)=1:=rfl;rw[U,Rat.one_mul]
 rw[e];decide
theorem azG(h:iA lp)(hm:lp.dP=true):wC lp.aX (hE lp) lp.fA:=by
 have aw:∀k,k<lp.aj.length->lp.fA.v k=yp (lp.aX.lo k) (lp.aX.up k):=λk ag=>by rw[ZU ag,Ag ag,Ah ag]
 refine⟨⟨azE hm,azF h,λk ag=>?_⟩,λk ag=>?_⟩
 ·have ag:k<lp.aj.length:=ag;show mG lp.aX lp.fA.v k;unfold mG;rw[aw k ag];unfold yp
  cases e:lp.aX.lo k with
  | some l=>exact .inr (.inl rfl)
  | none=>
    cases e2:lp.aX.up k with
    | some u=>exact .inr (.inr rfl)
    | none=>exact .inl rfl
 ·have ag:k<lp.aj.length:=ag;show oS lp.aX lp.fA.v k;unfold oS;rw[aw k ag];unfold yp;refine⟨λl e=>?_,λu e=>?_⟩
  ·rw[e];exact k3
  ·cases e2:lp.aX.lo k with
   | none=>rw[e];exact k3
   | some l=>exact QM hm k l u e2 e
end
end Go.Dam.C
namespace Go.Dam.C
open Go Go.Dam
theorem QO(n:Nat):(Lib.decDigits n).all iF=true:=by
 induction n using Nat.strongRecOn with
 | _ n ih=>
   by_cases h:n<10
   ·rw[Lib.decDigits_one h];have aa:(UInt8.ofNat (48+n)).toNat=48+n:=by simp;omega
    simp[iF];omega
   ·rw[Lib.decDigits,dif_neg h,List.all_append,ih (n/10) (by omega)];have aa:(UInt8.ofNat (48+n%10)).toNat=48+n%10:=by simp;omega
    simp[iF];omega
theorem azH(n:Nat):∀c,(Lib.decDigits n).head? = some c->iF c=true/\(1<=n->c≠48):=by
 induction n using Nat.strongRecOn with
 | _ n ih=>
   intro c af;refine⟨?_,λaF=>?_⟩
   ·have:=QO n
    cases aO:Lib.decDigits n with
    | nil=>rw[aO]at af;cases af
    | cons a l=>
      rw[aO]at af this;cases af;simp at this;exact this.1
   ·by_cases h:n<10
    ·rw[Lib.decDigits_one h]at af;simp at af;rintro rfl;have:=congrArg UInt8.toNat af;simp at this;omega
    ·rw[Lib.decDigits,dif_neg h]at af;have dr:=Kf (n/10)
     cases aO:Lib.decDigits (n/10) with
     | nil=>exact absurd aO dr
     | cons a l=>
       rw[aO]at af;simp at af;exact(ih (n/10) (by omega) c (by rw[aO];simp[af])).2 (by omega)
theorem QP(n:Nat):∀c∈Lib.decDigits n,c≠47/\c≠45:=by
 intro c af;have:=QO n;rw[hz]at this;have:=this c af;constructor<;>rintro rfl<;>exact absurd this (by decide)
theorem QQ(q:Rat):kK (dB q)=(decide (q<0),Lib.decDigits q.num.natAbs++if q.den=1 then[] else 47::Lib.decDigits q.den):=by
 unfold kK dB;by_cases h:q<0
 ·simp[h]
 ·have dr:=Kf q.num.natAbs
  cases aO:Lib.decDigits q.num.natAbs with
  | nil=>exact absurd aO dr
  | cons a l=>
    have:=(QP q.num.natAbs a (by rw[aO];exact .head _)).2;simp[h,this]
theorem QR(q:Rat):oI (Lib.decDigits q.num.natAbs++if q.den=1 then[] else 47::Lib.decDigits q.den)=(Lib.decDigits q.num.natAbs,Lib.decDigits q.den):=by
 have tH:47∉Lib.decDigits q.num.natAbs:=λh=>(QP _ _ h).1 rfl;have mc:∀c∈Lib.decDigits q.num.natAbs,(c != 47)=true:=λc af=>by simpa using(QP _ c af).1
 unfold oI;by_cases h:q.den=1
 ·rw[h];simp[tH,Lib.decDigits_one]
 ·simp only[h,if_false];rw[bm (by simp)];have ao:(Lib.decDigits q.num.natAbs++47::Lib.decDigits q.den).takeWhile (· != 47)=Lib.decDigits q.num.natAbs:=by
   rw[List.takeWhile_append_of_pos mc];simp
  have e2:(Lib.decDigits q.num.natAbs++47::Lib.decDigits q.den).dropWhile (· != 47)=47::Lib.decDigits q.den:=by
   rw[List.dropWhile_append_of_pos mc];simp
  rw[ao,e2];rfl
@[irreducible] def bZg(k:Nat):Nat:=10^k
theorem bZH(k:Nat):bZg k=10^k:=by delta bZg;rfl
theorem bXX{a b:Nat}(h:a<=b):bZg a<=bZg b:=by rw[bZH,bZH];exact iH (by decide) h
theorem bQv{a b:Nat}(h:a<b):bZg a<bZg b:=by rw[bZH,bZH];exact Nat.pow_lt_pow_right (by decide) h
theorem cYA(a:Nat):1<=bZg a:=by rw[bZH];exact bWk _ _ (by decide)
theorem bVu{a b c:Nat}(h:a+b=c):bZg a*bZg b=bZg c:=by rw[<-h,bZH,bZH,bZH,hT]
theorem cUp(a b:Nat):bZg a^b=bZg (a*b):=by rw[bZH,bZH];exact(bXi 10 a b).symm
theorem ZW{n:Nat}(h:n<bZg 2000):je (Lib.decDigits n)=true:=by
 have aO:(Lib.decDigits n).length<=2000:=by
  rw[Lib.decDigits_length];exact F6 (by rw[bZH]at h;exact h) (by decide)
 unfold je;have dr:=Kf n;have WH:(Nat.blt 1 (Lib.decDigits n).length&&(Lib.decDigits n).head? ==some 48)=false:=by
  cases aB:(Lib.decDigits n).head? ==some 48 with
  | false=>simp
  | true=>
    have aB:(Lib.decDigits n).head? = some 48:=by simpa using aB
    have aF:n=0:=by
     apply oa;intro aF;exact(azH n 48 aB).2 (by omega) rfl
    subst aF;rw[Lib.decDigits_one (by decide)];rfl
 simp only[QO,WH,Bool.and_true,Bool.not_false,cG];refine⟨by simpa using dr,by rw[dA];simpa using aO⟩
theorem azI{q:Rat}(U:q.num.natAbs<bZg 2000)(aa:q.den<bZg 2000):jD (dB q)=some q:=by
 unfold jD qu;rw[QQ,QR];simp only[QT,IV];rw[bm ⟨ZW U,ZW aa,q.den_nz,trivial⟩]
def kV:Nat:=bZg 1900
theorem cP.get{q:Rat}(h:cP kV q):jD (dB q)=some q:=by
 have dC:kV<bZg 2000:=bQv (by decide);exact azI (eD h.1 dC) (eD h.2 dC)
theorem cP.rd{q:Rat}(h:cP kV q):rd (dB q)=q:=by unfold C.rd;rw[h.get];rfl
theorem cP.isNum{q:Rat}(h:cP kV q):isNum (dB q)=true:=by unfold C.isNum;rw[h.get];rfl
theorem cP.sz{q:Rat}(h:cP kV q):sz q 2000:=by
 have dC:kV<4294967296^2000:=hR (bQv (show 1900<2000 by decide)) (by rw[bZH];exact QU 2000);exact⟨eD h.1 dC,eD h.2 dC⟩
theorem cP.len{q:Rat}(h:cP kV q):(dB q).length<=10000:=by
 have dC:kV<bZg 2000:=bQv (by decide);have ck:(Lib.decDigits q.num.natAbs).length<=2000:=by rw[Lib.decDigits_length];exact F6 (by rw[bZH]at dC;exact eD h.1 dC) (by decide)
 have cJ:(Lib.decDigits q.den).length<=2000:=by rw[Lib.decDigits_length];exact F6 (by rw[bZH]at dC;exact eD h.2 dC) (by decide)
 unfold dB;simp only[tr];split<;>split<;>simp<;>omega
end Go.Dam.C
namespace Go.Dam.C
theorem F7(a b:Nat):(10^a)^b=10^(a*b):=(bXi 10 a b).symm
theorem azJ{n:Nat}(aF:n<=6):(n*oW n)^n<=bZg 1266:=by
 have U:oW n<=10^210:=by
  unfold oW;rw[show hc*hc^n=hc^(n+1) by rw[bZm,gw],F7];exact iH (by decide) (by omega)
 have aa:n*oW n<=10^211:=by
  have:n*oW n<=10*10^210:=ie (by omega) U;rwa [<-Nat.pow_succ']at this
 calc (n*oW n)^n<=(10^211)^n:=bVX aa n
  _=bZg (211*n):=by rw[F7,bZH]
  _<=bZg 1266:=bXX (by omega)
theorem azK{n:Nat}(aF:n<=6):uH n<=bZg 180:=by
 unfold uH;rw[F7,bZH];exact iH (by decide) (by omega)
theorem QV{n:Nat}(aF:n<=6):(n*oW n)^n*uH n<=bZg 1446:=by
 have:=ie (azJ aF) (azK aF);rw[bVu (show 1266+180=1446 by decide)]at this;exact this
theorem azL{n:Nat}(aF:n<=6):qN n ((n*oW n)^n) (uH n) hc+hc<=bZg 1660:=by
 unfold qN;have U:hc*hc^n<=bZg 210:=by
  rw[show hc*hc^n=hc^(n+1) by rw[bZm,gw],F7,bZH];exact iH (by decide) (by omega)
 have aa:(n*oW n)^n*uH n*(hc*hc^n)<=bZg 1656:=by
  have:=ie (QV aF) U;rw[bVu (show 1446+210=1656 by decide)]at this;exact this
 have aq:n*((n*oW n)^n*uH n*(hc*hc^n))<=6*bZg 1656:=ie aF aa;have a8:hc<=bZg 1656:=by rw[show hc=bZg 30 from(bZH 30).symm];exact bXX (by decide)
 have cg:bZg 1660=10000*bZg 1656:=by rw[<-bVu (show 4+1656=1660 by decide),bZH 4]
 generalize n*((n*oW n)^n*uH n*(hc*hc^n))=a at*
 generalize (n*oW n)^n*uH n*(hc*hc^n)=b at*
 generalize hc=e at*
 rw[cg];generalize bZg 1656=p at*
 omega
theorem cP.mono{a b:Nat}{q:Rat}(h:cP a q)(nQ:a<=b):cP b q:=⟨bH h.1 nQ,bH h.2 nQ⟩
section
variable{lp:bD}{T:b8}
theorem j0.F8(h:iA lp)(bK:j0 lp.aX (hE lp) T){x:Nat}(az:x<lp.aj.length+lp.rows.length):cP (bZg 1660) (T.v x):=
 (bK.QI h.hE h.F4 az).mono (azL h.n)
theorem j0.Kg(h:iA lp)(bK:j0 lp.aX (hE lp) T){i k:Nat}(hi:i<lp.rows.length)(ag:k<lp.aj.length):cP (bZg 1446) (T.M i k):=
 (azv h.hE bK.inv bK.Ae hi ag).mono (QV h.n)
theorem sV{k:Nat}{q:Rat}(h:cP (bZg k) q)(ag:k<=1900):cP kV q:=h.mono (bXX ag)
theorem cYB{q:Rat}(h:cP hc q):cP kV q:=h.mono (by rw[show hc=bZg 30 from(bZH 30).symm];exact bXX (by decide))
theorem j0.ZX(h:iA lp)(bK:j0 lp.aX (hE lp) T):l4 lp.aX T 2000 where
 v:=λx az=>⟨λl e=>(cYB (h.F4.lo x l e)).sz,λl e=>(cYB (h.F4.up x l e)).sz,(sV (bK.F8 h az) (by decide)).sz⟩
 M:=λi k hi ag=>(sV (bK.Kg h hi ag) (by decide)).sz
theorem j0.strs(h:iA lp)(bK:j0 lp.aX (hE lp) T):qy (nv lp T):=by
 refine⟨?_,λs aG=>?_⟩
 ·have:=h.n;simp only[nv,bWf,bVg];show lp.aj.length<_;omega
 ·obtain⟨j,aH,rfl⟩:=bYm.1 aG;have aH:j<lp.aj.length:=bWd.1 aH;exact(sV (bK.F8 h (by omega)) (by decide)).len
theorem runs(h:iA lp)(hm:lp.dP=true):Kh lp (wC lp.aX (hE lp)) (uG lp.aX (hE lp)) 2000 where
 t1:=by decide
 Ki:=by decide
 s1:=azG h hm
 g1:=λT bK=>⟨bK.1.inv,bK.1.ZX h,azb (QM hm) bK.1.inv bK.2⟩
 n1:=λT dY bK e=>bK.next h.hE.pos (QM hm) e
 s2:=λT bK e=>bK.two e
 g2:=λT bK=>⟨bK.1.inv,bK.1.ZX h,bK.ends h.hE h.F4 h.Ke⟩
 n2:=λT dY bK e=>bK.next h.hE.pos e
 eH:=λT bK=>bK.1.strs h
end
section
variable{lp:bD}
def QW(kind:Int)(s b:Rat):Prop:=(kind=1->s<=b)/\(kind=3->b<=s)/\(kind≠1->kind≠3->s=b)
def nw(lp:bD)(x:Nat->Rat)(i:Nat):Rat:=bs (λj=>lp.aX.A i j*x j) lp.aj.length
structure sW(lp:bD)(x:Nat->Rat):Prop where
 c:∀j,j<lp.aj.length->((lp.col j).low≠[]->rd (lp.col j).low<=x j)/\((lp.col j).up≠[]->x j<=rd (lp.col j).up)
 r:∀i,i<lp.rows.length->QW (lp.row i).kind (nw lp x i) (rd (lp.row i).rhs)
structure Z1(lp:bD)(d:Nat->Rat)(s q:Rat)(k:Nat):Prop where
 ok:∀j,j<k->d j≠0->(if d j<0 then(lp.col j).up else(lp.col j).low)≠[]
 sum:q=s+bs (λj=>d j*rd (if d j<0 then(lp.col j).up else(lp.col j).low)) k
theorem Kk{d:Nat->Rat}{s:Rat}:∀{k:Nat} {q:Rat},l0 lp d s k=some q↔Z1 lp d s q k
 | 0,q=>by
   simp only[l0,a6];constructor
   ·rintro rfl;exact⟨λj aH=>absurd aH (od _),by simp[bs,bYG]⟩
   ·rintro⟨_,h⟩;rw[h];simp[bs,bYG]
 | k+1,q=>by
   rw[l0];have aO:∀(h:¬(d k≠0/\(if d k<0 then(lp.col k).up else(lp.col k).low).isEmpty=true)),wg (lp.col k) (d k)=some (d k*rd (if d k<0 then(lp.col k).up else(lp.col k).low)):=λh=>aU h;constructor
   ·intro h
    cases e:l0 lp d s k with
    | none=>rw[e]at h;cases h
    | some p=>
      rw[e]at h;simp only at h;obtain⟨i1,i2⟩:=Kk.1 e;by_cases af:d k≠0/\(if d k<0 then(lp.col k).up else(lp.col k).low).isEmpty=true
      ·rw[show wg (lp.col k) (d k)=none from bm af]at h;cases h
      ·rw[aO af]at h;simp only[a6]at h;refine⟨λj aH aB=>?_,?_⟩
       ·by_cases azN:j=k
        ·subst azN;intro he;exact af ⟨aB,by simp[he]⟩
        ·exact i1 j (by omega) aB
       ·rw[bs,<-h,i2];grind
   ·rintro⟨U,aa⟩;have e:l0 lp d s k=some (s+bs (λj=>d j*rd (if d j<0 then(lp.col j).up else(lp.col j).low)) k):=Kk.2 ⟨λj aH=>U j (by omega),rfl⟩;rw[e];simp only;have af:¬(d k≠0/\(if d k<0 then(lp.col k).up else(lp.col k).low).isEmpty=true):=by
     rintro⟨aB,he⟩;exact U k (by omega) aB (by simpa using he)
    rw[aO af];simp only[a6];rw[aa,bs];grind
def gD(lp:bD)(bZs:Bool)(y:Nat->Rat)(j:Nat):Rat:=d0 lp bZs j-bs (λi=>y i*lp.aX.A i j) lp.rows.length
structure sX(lp:bD)(bZs:Bool)(y:Nat->Rat)(b:Rat):Prop where
 ko:∀i,i<lp.rows.length->((lp.row i).kind=1->y i<=0)/\((lp.row i).kind=3->0<=y i)
 ls:Z1 lp (gD lp bZs y) (bs (λi=>y i*rd (lp.row i).rhs) lp.rows.length) b lp.aj.length
theorem Z2{y:Nat->Rat}{i:Nat}:Ct lp y i=true↔((lp.row i).kind=1->y i<=0)/\((lp.row i).kind=3->0<=y i):=by
 unfold Ct;rw[<-hA,<-hA];by_cases U:(lp.row i).kind=1<;>by_cases aq:(lp.row i).kind=3<;>simp[U,aq]
theorem QY(hm:lp.dP=true){bZs:Bool}{y:Nat->Rat}{b:Rat}:zH lp bZs y=some b↔sX lp bZs y b:=by
 have e:wh lp bZs y lp.rows.length=gD lp bZs y:=by
  funext j;exact ZR hm (bR _) j
 unfold zH;rw[e];constructor
 ·intro h;split at h
  ·rename_i aG;exact⟨λi hi=>Z2.1 (Jk.1 aG i hi),Kk.1 h⟩
  ·cases h
 ·rintro⟨U,aa⟩;rw[bm (Jk.2 λi hi=>Z2.2 (U i hi))];exact Kk.2 aa
structure Ai(lp:bD)(x:Nat->Rat):Prop where
 c:∀j,j<lp.aj.length->((lp.col j).low≠[]->0<=x j)/\((lp.col j).up≠[]->x j<=0)
 r:∀i,i<lp.rows.length->QW (lp.row i).kind (nw lp x i) 0
 n:lp.nh x<0
end
section
variable{lp:bD}
theorem Q2(hm:lp.dP=true){dz:List (List UInt8)}{bZs:Bool}{b:Rat}(h:gR lp dz bZs=some b):sX lp bZs (e1 dz) b:=by
 unfold gR at h;split at h
 ·exact(QY hm).1 h
 ·cases h
end
section
variable{lp:bD}{T:b8}{P:cr}
def ind(a b:Nat):Rat:=if a=b then 1 else 0
def lu(P:cr)(T:b8)(e:Nat->Rat)(x:Nat):Rat:=bs (λk=>e k*ind (T.aj k) x) P.n
theorem azQ(h:fh P T)(e:Nat->Rat){k:Nat}(ag:k<P.n):lu P T e (T.aj k)=e k:=by
 rw[lu,qL (j:=k) ag λi hi aF=>by rw[ind,aU λe=>aF (h.ci i k hi ag e),bYn],ind,bm rfl,Rat.mul_one]
theorem Z'{e:Nat->Rat}{x:Nat}(az:∀k,k<P.n->T.aj k≠x):lu P T e x=0:=rN λk ag=>by rw[ind,aU (az k ag),bYn]
theorem Km(h:fh P T)(e:Nat->Rat)(x:Nat):(∃k,k<P.n/\T.aj k=x/\lu P T e x=e k)∨((∀k,k<P.n->T.aj k≠x)/\lu P T e x=0):=by
 by_cases az:∃k,k<P.n/\T.aj k=x
 ·obtain⟨k,ag,rfl⟩:=az;exact .inl ⟨k,ag,rfl,azQ h e ag⟩
 ·exact .inr ⟨λk ag e=>az ⟨k,ag,e⟩,Z' λk ag e=>az ⟨k,ag,e⟩⟩
def want(P:cr)(w:Rat)(x:Nat):Option Rat:=if w<0 then P.up x else P.lo x
theorem aab(h:Inv lp.aX T){i:Nat}(hi:i<lp.rows.length):nw lp T.v i=T.v (lp.aj.length+i):=(h.val i hi).symm
theorem uE.fits(hm:lp.dP=true)(h:Inv lp.aX T)(bc:uE lp.aX T):sW lp T.v:=by
 refine⟨λj aH=>?_,λi hi=>?_⟩
 ·obtain⟨U,aa⟩:=bc j (show j<lp.aj.length+lp.rows.length by omega);rw[Ag aH]at U;rw[Ah aH]at aa;exact⟨λe=>U _ (by rw[gT,aU e]),λe=>aa _ (by rw[gT,aU e])⟩
 ·obtain⟨U,aa⟩:=bc (lp.aj.length+i) (show lp.aj.length+i<lp.aj.length+lp.rows.length by omega);rw[CW]at U;rw[CX]at aa;rw[aab h hi];have aF:isNum (lp.row i).rhs=true:=by
   have:=Kb hm hi;simp only[k8,cG]at this;exact this.2.1
  have dr:(lp.row i).rhs≠[]:=by
   intro e;rw[e]at aF;simp[isNum,Jj]at aF
  have aS:gT (lp.row i).rhs=some (rd (lp.row i).rhs):=by rw[gT,aU dr]
  refine⟨λav=>aa _ (by rw[aU (by omega)];exact aS),λaQ=>U _ (by rw[aU (by omega)];exact aS),λav aQ=>?_⟩;have a:=aa _ (by rw[aU aQ];exact aS);have b:=U _ (by rw[aU av];exact aS);grind
end
section
variable{lp:bD}{T:b8}{P:cr}
def jJ(P:cr)(T:b8)(a x:Nat):Rat:=(off P T.v (T.rows a):Rat)*ind (T.rows a) x+lu P T (mH P T a) x
theorem Kn{a:Nat}(h:fh P T)(aN:a<P.m):jJ P T a (T.rows a)=(off P T.v (T.rows a):Rat):=by
 rw[jJ,Z' λk ag e=>h.rc a k aN ag e.symm,ind,bm rfl,Rat.mul_one,bYG]
theorem Q4{a x:Nat}(az:x≠T.rows a):jJ P T a x=lu P T (mH P T a) x:=by
 rw[jJ,ind,aU (Ne.symm az),bYn,bVY]
end
section
variable{lp:bD}{T:b8}{P:cr}
theorem aad:dB 0=[48]:=by
 have:Lib.decDigits 0=[48]:=by rw[Lib.decDigits_one (by decide)];rfl
 simp[dB,this]
theorem azW:dB 1=[49]:=by
 have:Lib.decDigits 1=[49]:=by rw[Lib.decDigits_one (by decide)];rfl
 have h:¬(1:Rat)<0:=by decide
 simp[dB,this,h]
theorem azX:dB (-1)=[45,49]:=by
 have:Lib.decDigits 1=[49]:=by rw[Lib.decDigits_one (by decide)];rfl
 have h:(-1:Rat)<0:=by decide
 have U:(-1:Rat).num.natAbs=1:=by decide
 have aa:(-1:Rat).den=1:=by decide
 simp[dB,this,h,aa]
theorem aae{d:Nat->Rat}{i:Nat}:∀{K:Nat},(∀k,k<K->T.aj k≠P.n+i)->rS P T d K i=[48]
 | 0,_=>rfl
 | K+1,h=>by rw[rS,aU (h K (by omega)),aae λk ag=>h k (by omega)]
theorem aaf(bj:fh P T){d:Nat->Rat}{i k:Nat}:∀{K:Nat},K<=P.n->k<K->T.aj k=P.n+i->rS P T d K i=dB (d k)
 | K+1,db,ag,e=>by
   rw[rS];by_cases h:k=K
   ·subst h;rw[bm e]
   ·rw[aU λe2=>h (bj.ci k K (by omega) (by omega) (e.trans e2.symm)),aaf bj (by omega) (by omega) e]
theorem aag(bj:fh P T)(d:Nat->Rat)(i:Nat):rS P T d P.n i=dB (lu P T d (P.n+i)):=by
 rcases Km bj d (P.n+i) with⟨k,ag,ao,e2⟩ | ⟨h,e⟩
 ·rw[e2,aaf bj (bR _) ag ao]
 ·rw[e,aae h,aad]
theorem aah(bj:fh P T){a:Nat}(aN:a<P.m)(au:off P T.v (T.rows a)≠0)(i:Nat):qQ P T a i=dB (jJ P T a (P.n+i)):=by
 unfold qQ;by_cases h:T.rows a=P.n+i
 ·rw[bm h,<-h,Kn bj aN]
  rcases Ab au with e | e<;>rw[e]
  ·rw[bm (by decide)];exact azW.symm
  ·rw[aU (by decide)];exact azX.symm
 ·rw[aU h,Q4 (Ne.symm h),aag bj]
theorem Aj{m:Nat}{f:Nat->Rat}{i:Nat}(hi:i<m)(h:cP kV (f i)):e1 ((List.range m).map λi=>dB (f i)) i=f i:=by
 unfold e1;rw[ob,bZV,bXP hi];exact h.rd
theorem CY(hm:lp.dP=true){m:Nat}{f:Nat->Rat}(h:∀i,i<m->cP kV (f i)):h5 lp ((List.range m).map λi=>dB (f i)) m=true:=by
 unfold h5;rw[hm];simp only[bWf,bVg,decide_true,Bool.and_true];rw[hz];intro s aG;obtain⟨i,hi,rfl⟩:=bYm.1 aG;exact(h i (bWd.1 hi)).isNum
theorem F'{m:Nat}(hm:m<=1000){f:Nat->Rat}(h:∀i,i<m->cP kV (f i)):qy ((List.range m).map λi=>dB (f i)):=by
 refine⟨by simp;omega,λs aG=>?_⟩;obtain⟨i,hi,rfl⟩:=bYm.1 aG;exact(h i (bWd.1 hi)).len
theorem sW.congr{x cZ:Nat->Rat}(h:sW lp x)(e:∀j,j<lp.aj.length->cZ j=x j):sW lp cZ:=
 ⟨λj aH=>by rw[e j aH];exact h.c j aH,λi hi=>by
  rw[show nw lp cZ i=nw lp x i from eB λj aH=>by rw[e j aH]];exact h.r i hi⟩
theorem aak{x cZ:Nat->Rat}(e:∀j,j<lp.aj.length->cZ j=x j):lp.nh cZ=lp.nh x:=eB λj aH=>by rw[e j aH]
theorem Ai.congr{x cZ:Nat->Rat}(h:Ai lp x)(e:∀j,j<lp.aj.length->cZ j=x j):Ai lp cZ:=
 ⟨λj aH=>by rw[e j aH];exact h.c j aH,λi hi=>by
  rw[show nw lp cZ i=nw lp x i from eB λj aH=>by rw[e j aH]];exact h.r i hi,by rw[aak e];exact h.n⟩
theorem Q5{B:Nat}{q:Rat}(h:cP B q):cP B (-q):=by
 unfold cP at*
 rw[Rat.neg_num,Rat.neg_den,Int.natAbs_neg];exact h
theorem aal{B:Nat}(h:1<=B):cP B 1:=⟨h,h⟩
theorem aam{B:Nat}(dC:1<=B){w:Int}(h:w=1∨w=-1):cP B (w:Rat):=by
 rcases h with rfl | rfl
 ·exact aal dC
 ·exact Q5 (aal dC)
theorem aao(bj:fh P T){e:Nat->Rat}{B:Nat}(dC:1<=B)(h:∀k,k<P.n->cP B (e k))(x:Nat):cP B (lu P T e x):=by
 rcases Km bj e x with⟨k,ag,_,e2⟩ | ⟨_,e2⟩
 ·rw[e2];exact h k ag
 ·rw[e2];exact Af dC
end
section
variable{lp:bD}{T:b8}
theorem az2{P:cr}{B a k:Nat}(h:cP B (T.M a k)):cP B (mH P T a k):=by
 unfold mH;split
 ·exact Q5 h
 ·exact h
theorem aap{P:cr}(bj:fh P T){B a:Nat}(dC:1<=B)(aN:a<P.m)(au:off P T.v (T.rows a)≠0)(h:∀k,k<P.n->cP B (T.M a k))(x:Nat):cP B (jJ P T a x):=by
 by_cases e:x=T.rows a
 ·rw[e,Kn bj aN];exact aam dC (Ab au)
 ·rw[Q4 e];exact aao bj dC (λk ag=>az2 (h k ag)) x
end
section
variable{lp:bD}
theorem az6{q:Rat}{k:Nat}(h:sz q k)(ag:1<=k):(dB q).length<=20*k+2:=by
 have ck:=Gc h.1 ag;have cJ:=Gc h.2 ag;unfold dB;simp only[tr];split<;>split<;>simp<;>omega
theorem az7(h:iA lp)(i j:Nat):sz (lp.aX.A i j) 30:=by
 rcases QK (l:=(lp.row i).cM) (f:=λ_=>0) j with e | ⟨c,af,e⟩
 ·show sz (nu _ j) _;rw[nu,e];exact uh (by decide)
 ·show sz (nu _ j) _;rw[nu,e];exact jf ((F3 h i).2 c af) (by decide)
theorem Pz(h:iA lp)(hm:lp.dP=true){bZs:Bool}{dz:List (List UInt8)}(bu:∀i,sz (e1 dz i) 400):(jj (gR lp dz bZs)).length<1000000:=by
 have aF:=h.n;have Ga:=h.m
 cases e:gR lp dz bZs with
 | none=>simp[jj]
 | some b=>
   have ai:=(Q2 hm e).ls.sum;have U:sz (bs (λi=>e1 dz i*rd (lp.row i).rhs) lp.rows.length) 5200:=by
    refine ff (Ch (t:=400+30) λi _=>la (bu i) (jf (F3 h i).1 (by decide))) ?_;exact bH (bVR (ie Ga (bR (400+30+1)))) (by decide)
   have aa:∀j,sz (gD lp bZs (e1 dz) j) 5240:=λj=>by
    have aG:sz (bs (λi=>e1 dz i*lp.aX.A i j) lp.rows.length) 5200:=by
     refine ff (Ch (t:=400+30) λi _=>la (bu i) (az7 h i j)) ?_;exact bH (bVR (ie Ga (bR (400+30+1)))) (by decide)
    have aD:sz (d0 lp bZs j) 30:=by
     unfold d0;split
     ·exact jf (yn h j).2.2 (by decide)
     ·exact uh (by decide)
    exact ff (Yv aD aG) (by omega)
   have aq:sz (bs (λj=>gD lp bZs (e1 dz) j*rd (if gD lp bZs (e1 dz) j<0 then(lp.col j).up else(lp.col j).low)) lp.aj.length) 31700:=by
    refine ff (Ch (t:=5240+30) λj _=>la (aa j) ?_) ?_
    ·split
     ·exact jf (yn h j).2.1 (by decide)
     ·exact jf (yn h j).1 (by decide)
    ·exact bH (bVR (ie aF (bR (5240+30+1)))) (by decide)
   have a8:sz b 37000:=by rw[ai];exact ff (zz U aq) (by omega)
   have:=az6 a8 (by decide);show(dB b).length<_;omega
theorem cUq(c a b:Nat)(af:1<c)(h:a<b):c^a<c^b:=Nat.pow_lt_pow_right af h
theorem az8{q:Rat}(h:cP (bZg 1446) q):sz q 400:=by
 have dC:bZg 1446<4294967296^400:=by
  have:bZg 1446<=bZg 9^161:=by rw[cUp];exact bXX (by decide)
  have aa:bZg 9^161<=4294967296^161:=bVX (by rw[bZH];decide) _;exact eD (bH this aa) (cUq 4294967296 161 400 (by decide) (by decide))
 exact⟨eD h.1 dC,eD h.2 dC⟩
theorem ayo(h:iA lp)(hm:lp.dP=true){c:iz}(aG:CZ lp (wC lp.aX (hE lp)) (uG lp.aX (hE lp)) c)(aa:c.st=2):(jj (gR lp c.d false)).length<1000000:=by
 rcases aG with⟨T,a,bK,hw,c9⟩ | ⟨T,col,bK,he,iE⟩ | ⟨T,bK,he⟩
 ·obtain⟨aN,au,_⟩:=zWd hw;have au:off lp.aX T.v (T.rows a)≠0:=by simpa using au
  have az:(List.range lp.aX.m).map (qQ lp.aX T a)=(List.range lp.rows.length).map λi=>dB (jJ lp.aX T a (lp.aj.length+i)):=List.map_congr_left λi hi=>aah bK.1.inv.bj aN au i;have dC:1<=bZg 1446:=cYA 1446;have uJ:∀i,cP (bZg 1446) (jJ lp.aX T a (lp.aj.length+i)):=λi=>aap (B:=bZg 1446) bK.1.inv.bj dC aN au (λk ag=>bK.1.Kg h aN ag) _;refine Pz h hm λi=>?_;show sz (e1 ((List.range lp.aX.m).map (qQ lp.aX T a)) i) 400;rw[az];by_cases hi:i<lp.rows.length
  ·rw[Aj hi (sV (uJ i) (by decide))];exact az8 (uJ i)
  ·unfold e1;rw[ob,jq (by simp;omega)];exact jf (by simp) (by decide)
 ·cases aa
 ·cases aa
end
section
variable{α:Type}{f:α->Option α}
theorem bVv:∀{k j:Nat} {a b c:α},oT f k a=some b->oT f j a=some c->f b=none->f c=none->b=c
 | 0,0,a,b,c,U,aa,_,_=>by cases U;cases aa;rfl
 | 0,j+1,a,b,c,U,aa,ai,_=>by
   cases U;rw[oT,ai]at aa;cases aa
 | k+1,0,a,b,c,U,aa,_,af=>by
   cases aa;rw[oT,af]at U;cases U
 | k+1,j+1,a,b,c,U,aa,ai,af=>by
   rw[oT]at U aa
   cases e:f a with
   | none=>rw[e]at U;cases U
   | some a'=>
     rw[e]at U aa;exact bVv U aa ai af
theorem bUl:∀{k:Nat} {a b c:α},oT f k a=some b->f b=some c->oT f (k+1) a=some c
 | 0,a,b,c,h,e=>by cases h;rw[oT,e];rfl
 | k+1,a,b,c,h,e=>by
   rw[oT]at h|-
   cases ao:f a with
   | none=>rw[ao]at h;cases h
   | some a'=>
     rw[ao]at h;exact bUl h e
end
def bVw(lp:bD)(T:b8):Prop:=wC lp.aX (hE lp) T/\∃k,oT (rO lp.aX) k lp.fA=some T
def bWq(lp:bD)(T:b8):Prop:=uG lp.aX (hE lp) T/\∃Uf k j,oT (rO lp.aX) k lp.fA=some Uf/\uC lp.aX Uf=none/\oT (pE lp.aX lp.cs) j Uf=some T
abbrev bZJ(lp:bD)(a:iz):Prop:=CZ lp (bVw lp) (bWq lp) a
theorem bQs{lp:bD}(h:iA lp)(hm:lp.dP=true):Kh lp (bVw lp) (bWq lp) 2000 where
 t1:=(runs h hm).t1
 Ki:=(runs h hm).Ki
 s1:=⟨(runs h hm).s1,0,rfl⟩
 g1:=λT bK=>(runs h hm).g1 T bK.1
 n1:=λT dY bK e=>⟨(runs h hm).n1 T dY bK.1 e,bK.2.choose+1,bUl bK.2.choose_spec e⟩
 s2:=λT bK e=>⟨(runs h hm).s2 T bK.1 e,T,bK.2.choose,0,bK.2.choose_spec,e,rfl⟩
 g2:=λT bK=>(runs h hm).g2 T bK.1
 n2:=λT dY bK e=>by
  obtain⟨U,Uf,k,j,aa,aq,a8⟩:=bK;exact⟨(runs h hm).n2 T dY U e,Uf,k,j+1,aa,aq,bUl a8 e⟩
 eH:=λT bK=>(runs h hm).eH T bK.1
theorem bZJ.s{lp:bD}{a:iz}(h:bZJ lp a):CZ lp (wC lp.aX (hE lp)) (uG lp.aX (hE lp)) a:=by
 cases h with
 | inf T a U aa aq=>exact .inf T a U.1 aa aq
 | Q1 T c U aa aq=>exact .Q1 T c U.1 aa aq
 | opt T U aa=>exact .opt T U.1 aa
theorem bQw{P:cr}{T:b8}(h:uC P T=none):rO P T=none:=by unfold rO;rw[h]
theorem bQx{P:cr}{T:b8}{a:Nat}(h:uC P T=some a)(aa:sP P T a (off P T.v (T.rows a))=none):rO P T=none:=by unfold rO;rw[h];simp only[aa]
theorem bUm{P:cr}{c:Nat->Rat}{T:b8}(h:enters P c T=none):pE P c T=none:=by unfold pE;rw[h]
theorem bUn{P:cr}{c:Nat->Rat}{T:b8}{k:Nat}(h:enters P c T=some k)(aa:(fv P T k (gl P c T k) P.m).gH=none):pE P c T=none:=by unfold pE;rw[h];simp only[aa]
theorem bWq.one{lp:bD}{T dY:b8}(h:bWq lp T)(gJ:bWq lp dY)(e:pE lp.aX lp.cs T=none)(bw:pE lp.aX lp.cs dY=none):T=dY:=by
 obtain⟨_,A,k,j,cx,a2,a3⟩:=h;obtain⟨_,B,k',MX,cR,b9,fK⟩:=gJ;obtain rfl:=bVv cx cR (bQw a2) (bQw b9);exact bVv a3 fK e bw
theorem bVw.no{lp:bD}{T dY:b8}{a:Nat}(h:bVw lp T)(aa:uC lp.aX T=some a)(aq:sP lp.aX T a (off lp.aX T.v (T.rows a))=none)(gJ:bWq lp dY):False:=by
 obtain⟨_,k,cx⟩:=h;obtain⟨_,B,k',MX,cR,b9,fK⟩:=gJ;obtain rfl:=bVv cx cR (bQx aa aq) (bQw b9);rw[aa]at b9;cases b9
theorem bZJ.uniq{lp:bD}{a b:iz}(h:bZJ lp a)(g:bZJ lp b):a=b:=by
 cases h with
 | inf T i U aa aq=>
   cases g with
   | inf dY iq g1 g2 g3=>
     obtain⟨_,k,cx⟩:=U;obtain⟨_,k',cR⟩:=g1;obtain rfl:=bVv cx cR (bQx aa aq) (bQx g2 g3);rw[aa]at g2;cases g2;rfl
   | Q1 dY c g1 g2 g3=>exact(U.no aa aq g1).elim
   | opt dY g1 g2=>exact(U.no aa aq g1).elim
 | Q1 T c U aa aq=>
   cases g with
   | inf dY iq g1 g2 g3=>exact(g1.no g2 g3 U).elim
   | Q1 dY ek g1 g2 g3=>
     obtain rfl:=U.one g1 (bUn aa aq) (bUn g2 g3);rw[aa]at g2;cases g2;rfl
   | opt dY g1 g2=>
     obtain rfl:=U.one g1 (bUn aa aq) (bUm g2);rw[aa]at g2;cases g2
 | opt T U aa=>
   cases g with
   | inf dY iq g1 g2 g3=>exact(g1.no g2 g3 U).elim
   | Q1 dY ek g1 g2 g3=>
     obtain rfl:=U.one g1 (bUm aa) (bUn g2 g3);rw[aa]at g2;cases g2
   | opt dY g1 g2=>
     obtain rfl:=U.one g1 (bUm aa) (bUm g2);rfl
theorem bZJ.len{lp:bD}(h:iA lp)(hm:lp.dP=true){c:iz}(aG:bZJ lp c)(aa:c.st=2):(jj (gR lp c.d false)).length<1000000:=ayo h hm aG.s aa
theorem bZJ.cYC{lp:bD}(h:iA lp)(hm:lp.dP=true){c:iz}(aG:bZJ lp c)(U:c.st=1):h5 lp c.x lp.aj.length=true/\sW lp (e1 c.x)/\∀s∈c.x,s.length<=10000:=by
 have Q6:=h.n
 rcases aG.s with⟨T,a,bK,hw,c9⟩ | ⟨T,col,bK,he,iE⟩ | ⟨T,bK,he⟩
 ·cases U
 ·cases U
 ·have rT:∀j,j<lp.aj.length->cP kV (T.v j):=λj aH=>sV (bK.1.F8 h (by omega)) (by decide);have aC:nv lp T=(List.range lp.aj.length).map λj=>dB (T.v j):=rfl;exact⟨aC▸CY hm rT,(uE.fits hm bK.1.inv bK.2).congr λj aH=>Aj aH (rT j aH),aC▸(F' (by omega) rT).all⟩
structure bZR where
 col:Int
 at':List UInt8
 l:Int
 r:Int
 d:List (List UInt8)
def bWr:bZR:=⟨-1,[],0,0,[]⟩
structure bZe where
 todo:List (Nat×List eu)
 tree:List bZR
 bZh:iz
 val:Option Rat
def bZy:eu:=⟨[],[],[],[],false⟩
def bYL(aj:List eu)(x:List (List UInt8)):Option Nat:=(List.range aj.length).find? λi=>(aj.getD i bZy).int&&decide ((e1 x i).den≠1)
open Classical in
noncomputable def bZT(lp:bD):iz:=if h:∃a,bZJ lp a then h.choose else⟨0,[],[],[],[]⟩
theorem bWs{lp:bD}{a:iz}(h:bZJ lp a):bZT lp=a:=by
 have az:∃a,bZJ lp a:=⟨a,h⟩;unfold bZT;rw[dif_pos az];exact bZJ.uniq az.choose_spec h
def bZe.bZo(s:bZe)(cs:List eu):bZe:={s with tree:=s.tree++[bWr],todo:=s.todo++[(s.tree.length,cs)]}
def bXY(cs:List eu)(i:Nat)(t:List UInt8):List eu:=cs.set i {cs.getD i bZy with low:=t}
def bXz(cs:List eu)(i:Nat)(t:List UInt8):List eu:=cs.set i {cs.getD i bZy with up:=t}
def bZe.branch(s:bZe)(k:Nat)(cs:List eu)(i:Nat)(v:Rat):bZe:=
 {((s.bZo (bXz cs i (dB (v.floor:Rat)))).bZo (bXY cs i (dB ((v.floor:Rat)+1)))) with tree:=((s.tree++[bWr])++[bWr]).set k ⟨i,dB (v.floor:Rat),s.tree.length,s.tree.length+1,[]⟩}
def bZe.bZu(s:bZe)(k:Nat)(d:List (List UInt8)):bZe:={s with tree:=s.tree.set k {s.tree.getD k bWr with d:=d}}
def bWt(v:Option Rat)(w:Rat):Bool:=match v with
 | some u=>decide (u<=w)
 | none=>false
noncomputable def bZe.look(l:bD)(s:bZe)(k:Nat)(cs:List eu):bZe:=
 if(⟨cs,l.rows⟩:bD).dP=true then
  if(bZT ⟨cs,l.rows⟩).st=1 then
   if bWt s.val (rd (bZT ⟨cs,l.rows⟩).val)=true then s.bZu k (bZT ⟨cs,l.rows⟩).d
   else match bYL l.aj (bZT ⟨cs,l.rows⟩).x with
    | none=>{s.bZu k (bZT ⟨cs,l.rows⟩).d with val:=some (rd (bZT ⟨cs,l.rows⟩).val),bZh:=⟨1,(bZT ⟨cs,l.rows⟩).val,(bZT ⟨cs,l.rows⟩).x,[],[]⟩}
    | some i=>(s.bZu k (bZT ⟨cs,l.rows⟩).d).branch k cs i (e1 (bZT ⟨cs,l.rows⟩).x i)
  else s.bZu k (bZT ⟨cs,l.rows⟩).d
 else s
def bYh(deep:Bool)(n:Nat):Nat:=if deep then n-1 else 0
def bZe.del(s:bZe)(k:Nat):bZe:={s with todo:=s.todo.eraseIdx k}
inductive bZL(l:bD)(deep:Bool)(m:Nat):bZe->bZe->Bool->Prop
 | done (s:bZe):s.todo=[]->bZL l deep m s s (decide (s.tree.length<=m))
 | bYp (s:bZe):s.todo≠[]->m<s.tree.length->bZL l deep m s s false
 | step (s eZ:bZe) (b:Bool) (x:Nat×List eu):s.todo[bYh deep s.todo.length]? = some x->s.tree.length<=m->bZL l deep m ((s.del (bYh deep s.todo.length)).look l x.1 x.2) eZ b->bZL l deep m s eZ b
theorem bZL.cUr{l:bD}{deep:Bool}{m:Nat}{s a b:bZe}{x y:Bool}(h:bZL l deep m s a x):bZL l deep m s b y->a=b/\x=y:=by
 induction h with
 | done s h=>
   intro g
   cases g with
   | done _ _=>exact⟨rfl,rfl⟩
   | bYp _ aa _=>exact absurd h aa
   | step _ _ _ x aa=>rw[h]at aa;simp at aa
 | bYp s h aa=>
   intro g
   cases g with
   | done _ g=>exact absurd g h
   | bYp _ _ _=>exact⟨rfl,rfl⟩
   | step _ _ _ x _ g=>omega
 | step s eZ c x U aa aq ih=>
   intro g
   cases g with
   | done _ g=>rw[g]at U;simp at U
   | bYp _ _ g=>omega
   | step _ _ _ y g1 g2 g3=>
     rw[U]at g1;cases g1;exact ih g3
theorem bZL.more{l:bD}{deep:Bool}{m n:Nat}{s a:bZe}(hm:m<=n){x:Bool}(h:bZL l deep m s a x):x=true->bZL l deep n s a true:=by
 induction h with
 | done s h=>
   intro e;have:s.tree.length<=m:=by simpa using e
   have aa:=bZL.done (l:=l) (deep:=deep) (m:=n) s h;rwa [bZK (show s.tree.length<=n by omega)]at aa
 | bYp s h aa=>intro e;cases e
 | step s eZ c x U aa aq ih=>
   intro e;exact .step s eZ true x U (by omega) (ih e)
def bZz:Rat:=(10:Rat)^20
def bYq(s:List UInt8):Prop:=s≠[]/\s.length<=30/\-bZz<=rd s/\rd s<=bZz
structure bYi(l:bD)(cs:List eu):Prop where
 len:cs.length=l.aj.length
 c:∀i,i<cs.length->(cs.getD i bZy).cost=(l.col i).cost/\(cs.getD i bZy).int=(l.col i).int/\((l.col i).int=false->(cs.getD i bZy).low=(l.col i).low/\(cs.getD i bZy).up=(l.col i).up)/\((l.col i).int=true->bYq (cs.getD i bZy).low/\bYq (cs.getD i bZy).up)
theorem cUs{α:Type}{cs:List α}{c d:α}(h:c∈cs):∃i,i<cs.length/\cs.getD i d=c:=by
 obtain⟨i,hi,rfl⟩:=bVp h;exact⟨i,hi,by rw[ob,hG hi];rfl⟩
theorem bYi.bQy{l:bD}(aO:iA l){cs:List eu}(h:bYi l cs):iA ⟨cs,l.rows⟩:=by
 refine⟨by show cs.length<=6;rw[h.len];exact aO.n,aO.m,λc af=>?_,aO.r⟩;obtain⟨i,hi,rfl⟩:=cUs (d:=bZy) af;obtain⟨U,aa,aq,a8⟩:=h.c i hi;have hm:=aO.c _ (fR (bD.Cn (lp:=l) (i:=i) (by rw[<-h.len];exact hi)));rw[U]
 cases e:(l.col i).int with
 | false=>obtain⟨ao,e2⟩:=aq e;rw[ao,e2];exact hm
 | true=>obtain⟨ao,e2⟩:=a8 e;exact⟨ao.2.1,e2.2.1,hm.2.2⟩
theorem cUt(k:Nat):∀n,n<10^(k+1)->(Lib.decDigits n).length<=k+1:=by
 induction k with
 | zero=>intro n h;rw[Lib.decDigits_one (by simpa using h)];exact bR _
 | succ k ih=>
   intro n h;by_cases cYD:n<10
   ·rw[Lib.decDigits_one cYD];simp
   ·rw[Lib.decDigits,dif_neg cYD];have:=ih (n/10) (by rw[bZm]at h;omega);simp;omega
theorem bQz{z:Int}(aD:z.natAbs<=10^20):rd (dB (z:Rat))=z:=by
 have ai:cP kV (z:Rat):=by
  refine⟨?_,?_⟩
  ·rw[Rat.num_intCast];exact bH aD (by rw[<-bZH];exact bXX (by decide))
  ·rw[Rat.den_intCast];exact cYA 1900
 exact ai.rd
theorem cYE{z:Int}(aD:z.natAbs<=10^20):(dB (z:Rat)).length<=30:=by
 have U:=cUt 20 z.natAbs (by omega);unfold dB;rw[Rat.num_intCast,Rat.den_intCast];simp only[tr,if_true,List.length_nil];split<;>simp<;>omega
theorem cUu(q:Rat):dB q≠[]:=by
 have:=Kf q.num.natAbs;unfold dB;intro h;simp at h;exact this h.2.1
theorem bQA{z:Int}(U:-bZz<=(z:Rat))(aa:(z:Rat)<=bZz):z.natAbs<=10^20:=by
 have e:bZz=((10^20:Int):Rat):=by unfold bZz;decide +kernel
 rw[e]at U aa;have aa:z<=10^20:=Rat.intCast_le_intCast.1 aa;have U:-(10^20)<=z:=by
  have:((-(10^20):Int):Rat)<=(z:Rat):=by simpa using U
  exact Rat.intCast_le_intCast.1 this
 omega
theorem bYq.int{z:Int}(U:-bZz<=(z:Rat))(aa:(z:Rat)<=bZz):bYq (dB (z:Rat)):=by
 have h:=bQA U aa;exact⟨cUu _,cYE h,by rw[bQz h];exact U,by rw[bQz h];exact aa⟩
theorem bQB{α:Type}{cs:List α}{i j:Nat}{c d:α}(hi:i<cs.length):(cs.set i c).getD j d=if j=i then c else cs.getD j d:=by
 simp only[ob];by_cases e:j=i
 ·subst e;simp[hi]
 ·rw[bWM (Ne.symm e),aU e]
theorem bYi.up{l:bD}{cs:List eu}(h:bYi l cs){i:Nat}(hi:i<cs.length)(aF:(l.col i).int=true){t:List UInt8}(aS:bYq t):bYi l (bXz cs i t):=by
 refine⟨by simp[bXz,h.len],λj aH=>?_⟩;have aH:j<cs.length:=by simpa [bXz]using aH
 have c9:=h.c j aH;unfold bXz;rw[bQB hi];split
 ·rename_i e;subst e;exact⟨c9.1,c9.2.1,λe=>absurd (aF.symm.trans e) (by decide),λ_=>⟨(c9.2.2.2 aF).1,aS⟩⟩
 ·exact c9
theorem bYi.low{l:bD}{cs:List eu}(h:bYi l cs){i:Nat}(hi:i<cs.length)(aF:(l.col i).int=true){t:List UInt8}(aS:bYq t):bYi l (bXY cs i t):=by
 refine⟨by simp[bXY,h.len],λj aH=>?_⟩;have aH:j<cs.length:=by simpa [bXY]using aH
 have c9:=h.c j aH;unfold bXY;rw[bQB hi];split
 ·rename_i e;subst e;exact⟨c9.1,c9.2.1,λe=>absurd (aF.symm.trans e) (by decide),λ_=>⟨aS,(c9.2.2.2 aF).2⟩⟩
 ·exact c9
theorem bVx:bZz=((10^20:Int):Rat):=by unfold bZz;decide +kernel
theorem bUo:-bZz=((-(10^20):Int):Rat):=by rw[bVx,Rat.intCast_neg]
theorem cUv{v:Rat}(U:-bZz<=v)(aa:v<=bZz):bYq (dB (v.floor:Rat)):=by
 refine bYq.int ?_ (Rat.le_trans (Rat.floor_le v) aa);rw[bUo]at U|-;exact Rat.intCast_le_intCast.2 (Rat.le_floor_iff.2 U)
theorem cYF{v:Rat}(h:v.den≠1):((v.floor:Int):Rat)<v:=by
 refine Rat.lt_of_le_of_ne (Rat.floor_le v) λe=>h ?_;rw[<-e,Rat.den_intCast]
theorem cUw{v:Rat}(U:-bZz<=v)(aa:v<=bZz)(aw:v.den≠1):bYq (dB ((v.floor:Rat)+1)):=by
 have e:((v.floor:Rat)+1)=((v.floor+1:Int):Rat):=by simp
 rw[e];refine bYq.int ?_ ?_
 ·rw[bUo]at U|-;have:=Rat.le_floor_iff.2 U;exact Rat.intCast_le_intCast.2 (by omega)
 ·rw[bVx]at aa|-;have aq:((v.floor:Int):Rat)<((10^20:Int):Rat):=(by have:=cYF aw;grind);have aq:=Rat.intCast_lt_intCast.1 aq;exact Rat.intCast_le_intCast.2 (by omega)
structure bWu(l:bD):Prop where
 s:iA l
 c:∀i,i<l.aj.length->(l.col i).int=true->bYq (l.col i).low/\bYq (l.col i).up
theorem cYG{l:bD}{i:Nat}:l.aj.getD i bZy=l.col i:=rfl
theorem bWu.node{l:bD}(h:bWu l):bYi l l.aj:=⟨rfl,λi hi=>⟨rfl,rfl,λ_=>⟨rfl,rfl⟩,λe=>h.c i hi e⟩⟩
structure bYr(l:bD)(s:bZe):Prop where
 td:∀x∈s.todo,x.1<s.tree.length/\bYi l x.2
theorem bYr.bZo{l:bD}{s:bZe}(h:bYr l s){cs:List eu}(af:bYi l cs):bYr l (s.bZo cs):=by
 refine⟨λx az=>?_⟩;simp only[bZe.bZo,bXf,DZ]at az;simp only[bZe.bZo,tr,List.length_singleton]
 rcases az with az | rfl
 ·exact⟨by have:=(h.td x az).1;omega,(h.td x az).2⟩
 ·exact⟨by simp,af⟩
theorem bYr.bZu{l:bD}{s:bZe}(h:bYr l s){k:Nat}{d:List (List UInt8)}:bYr l (s.bZu k d):=⟨λx az=>by
 have:=h.td x az;simpa [bZe.bZu]using this⟩
theorem bYr.del{l:bD}{s:bZe}(h:bYr l s){k:Nat}:bYr l (s.del k):=⟨λx az=>h.td x (List.mem_of_mem_eraseIdx az)⟩
theorem cYH{aj:List eu}{x:List (List UInt8)}{i:Nat}(h:bYL aj x=some i):i<aj.length/\(aj.getD i bZy).int=true/\(e1 x i).den≠1:=by
 obtain⟨U,aa,_⟩:=List.find?_range_eq_some.1 h;simp only[cG,eh]at U;exact⟨bWd.1 aa,U.1,U.2⟩
theorem bYr.branch{l:bD}{s:bZe}(h:bYr l s){k i:Nat}{cs:List eu}{v:Rat}(af:bYi l cs)(hi:i<cs.length)(aF:(l.col i).int=true)(U:-bZz<=v)(aa:v<=bZz)(aw:v.den≠1):bYr l (s.branch k cs i v):=by
 have g:=(h.bZo (af.up hi aF (cUv U aa))).bZo (af.low hi aF (cUw U aa aw));refine⟨λx az=>?_⟩;have:=g.td x az;simpa [bZe.branch,bZe.bZo]using this
theorem cYI{l:bD}{cs:List eu}(aO:iA l)(af:bYi l cs)(hm:(⟨cs,l.rows⟩:bD).dP=true){a:iz}(aG:bZJ ⟨cs,l.rows⟩ a)(U:a.st=1){i:Nat}(hi:i<cs.length)(aF:(l.col i).int=true):-bZz<=e1 a.x i/\e1 a.x i<=bZz:=by
 obtain⟨_,bc,_⟩:=aG.cYC (af.bQy aO) hm U;obtain⟨cy,dd⟩:=bc.c i hi;obtain⟨_,_,_,ai⟩:=af.c i hi;obtain⟨cR,b9⟩:=ai aF;exact⟨Rat.le_trans cR.2.2.1 (cy cR.1),Rat.le_trans (dd b9.1) b9.2.2.2⟩
end Go.Dam.C
namespace Go.Dam.C
open Go Go.Dam
def Fu(_:Perm)(args:List Value)(H:ah):Option (Value×ah):=match args with
 | []=>bif qI H then some (.bool true,H) else none
 | _=>none
structure bWo(X:aY):Prop extends hj X where
 begun:X.ov F.O9=some Fu
 ll:Has X F.ll C.ll
 wk:Has X F.wk C.wk
variable{X:aY}{pm:Perm}{H H' cL H0:ah}{n:Nat}
theorem ax2(al:bWo X)(aS:Tab H):Call X pm F.O9 [] H λr H'=>H'=H/\r=.bool true:=by
 refine Call.over al.begun (v:=.bool true) (H':=H) ?_ ⟨rfl,rfl⟩;simp only[Fu,rE aS];rfl
theorem zK(al:bWo X){l:List UInt8}{n:Nat}(_aF:n<=1000):Call X pm F.ll [aW l,.int .i64 (n:Int)] H λr H'=>H'=H/\r=aW (l.take n):=by
 refine Call.has al.ll rfl ?_;by_cases h:n<l.length
 ·simp[h,show n<=l.length by omega]
 ·simp[h];rw[tp (by omega)]
end Go.Dam.C
namespace Go.Dam.C
open Go Go.Dam
variable{X:aY}{pm:Perm}{H H' cL H0:ah}{n:Nat}
def np(ba:Nat):Value->Prop
 | .slice (some a) n _=>ba<=a.block/\0<n
 | _=>True
theorem zWa.put{v:Value}{m w ba b:Nat}{P sA:Nat->List Value->Prop}(h:zWa H v m w P)(bc:np ba v)(ai:b<ba)(x:cj)(aC:∀i cs,i<m->P i cs->sA i cs):zWa (H.put b x) v m w sA:=by
 obtain⟨base,cap,rfl,eU⟩:=h.ex;refine⟨base,cap,rfl,λi hi=>?_⟩;obtain⟨c,off,y,row,cs,rfl,e2,bd,b1,cK⟩:=eU i hi;have bc:ba<=c:=bc.1;exact⟨c,off,y,row,cs,rfl,by rw[cq (by omega)];exact e2,bd,b1,aC i cs hi cK⟩
def uv(H:ah)(ba:Nat)(v:Value)(l:List di):Prop:=zWa H v l.length 5 λi cs=>∃r vc,l[i]? = some r/\cs=r.cells vc/\nX H vc r.cM/\np ba vc
theorem uv.rows{ba:Nat}{v:Value}{l:List di}(h:uv H ba v l):nY H v l:=zWa.imp h (λ_ _ e=>e) λ_ _ _ ⟨r,vc,ao,e2,bd,_⟩=>⟨r,vc,ao,e2,bd⟩
theorem uv.ext{ba:Nat}{v:Value}{l:List di}(h:uv H ba v l)(e:Ext H H'):uv H' ba v l:=zWa.imp h e λ_ _ _ ⟨r,vc,ao,e2,bd,b1⟩=>⟨r,vc,ao,e2,bd.ext e,b1⟩
theorem uv.put{ba b:Nat}{v:Value}{l:List di}(h:uv H ba v l)(bc:np ba v)(ai:b<ba)(x:cj):uv (H.put b x) ba v l:=
 zWa.put h bc ai x λ_ _ _ ⟨r,vc,ao,e2,bd,b1⟩=>⟨r,vc,ao,e2,zWa.put bd b1 ai x λ_ _ _ h=>h,b1⟩
def sL(H:ah)(ba:Nat)(r:Value)(lp:bD):Prop:=∃v1 v2,r=.agg #[v1,v2]/\kI H v1 lp.aj/\uv H ba v2 lp.rows/\np ba v1/\np ba v2
theorem sL.lp{ba:Nat}{r:Value}{lp:bD}(h:sL H ba r lp):ps H r lp:=by
 obtain⟨v1,v2,rfl,U,aa,_⟩:=h;exact⟨v1,v2,rfl,U,aa.rows⟩
theorem sL.ext{ba:Nat}{r:Value}{lp:bD}(h:sL H ba r lp)(e:Ext H H'):sL H' ba r lp:=by
 obtain⟨v1,v2,rfl,U,aa,aq⟩:=h;exact⟨v1,v2,rfl,U.ext e,aa.ext e,aq⟩
theorem sL.put{ba b:Nat}{r:Value}{lp:bD}(h:sL H ba r lp)(ai:b<ba)(x:cj):sL (H.put b x) ba r lp:=by
 obtain⟨v1,v2,rfl,U,aa,aq,a8⟩:=h;exact⟨v1,v2,rfl,zWa.put U aq ai x λ_ _ _ h=>h,aa.put a8 ai x,aq,a8⟩
def eu.cut(c:eu):eu:={c with low:=c.low.take 20,up:=c.up.take 20,cost:=c.cost.take 20}
def di.cut(r:di):di:={r with cM:=(r.cM.take 8).map λc=>{c with v:=c.v.take 20},rhs:=r.rhs.take 30}
def bD.cut(lp:bD):bD:=⟨(lp.aj.take 6).map eu.cut,(lp.rows.take 6).map di.cut⟩
theorem bD.ax8(lp:bD):iA lp.cut:=by
 refine⟨by simp[bD.cut];omega,by simp[bD.cut];omega,λc af=>?_,λr an=>?_⟩
 ·obtain⟨c,_,rfl⟩:=bYm.1 af;simp only[eu.cut,bXd];omega
 ·obtain⟨r,_,rfl⟩:=bYm.1 an;simp only[di.cut,bXd,bWf];refine⟨by omega,by omega,λc af=>?_⟩;obtain⟨c,_,rfl⟩:=bYm.1 af;simp only[bXd];omega
def hO(H:ah)(v:Value)(m w:Nat)(P:Nat->List Value->Prop):Prop:=∃base cap,v=.slice base m cap/\m<=cap/\(base=none->m=0)/\∀a,base=some a->∃b off row,a=⟨b,off,none⟩/\(H.get b=some (.ro row)∨H.get b=some (.cells row (.n w)))/\off+m*w<=row.length/\∀i,i<m->∃cs,cX row (off+i*w) w=some cs/\P i cs
theorem hO.sl{v:Value}{m w:Nat}{P:Nat->List Value->Prop}(h:hO H v m w P):zWa H v m w P:=by
 obtain⟨base,cap,rfl,_,aD,U⟩:=h;refine⟨base,cap,rfl,λi hi=>?_⟩
 cases base with
 | none=>have:=aD rfl;omega
 | some a=>
   obtain⟨b,off,row,rfl,aa,_,aq⟩:=U _ rfl;obtain⟨cs,a8,cg⟩:=aq i hi
   rcases aa with aa | aa
   ·exact⟨b,off,_,row,cs,rfl,aa,rfl,a8,cg⟩
   ·exact⟨b,off,_,row,cs,rfl,aa,rfl,a8,cg⟩
theorem hO.imp{v:Value}{m w:Nat}{P sA:Nat->List Value->Prop}(h:hO H v m w P)(e:Ext H H')(aC:∀i cs,i<m->P i cs->sA i cs):hO H' v m w sA:=by
 obtain⟨base,cap,rfl,hm,aD,U⟩:=h;refine⟨base,cap,rfl,hm,aD,λa aN=>?_⟩;obtain⟨b,off,row,rfl,aa,ai,aq⟩:=U a aN;exact⟨b,off,row,rfl,aa.imp (e _ _) (e _ _),ai,λi hi=>(aq i hi).imp λcs h=>⟨h.1,aC i cs hi h.2⟩⟩
def CF(H:ah)(v:Value)(l:List di):Prop:=hO H v l.length 5 λi cs=>∃r vc,l[i]? = some r/\cs=r.cells vc/\hO H vc r.cM.length 2 λi cs=>∃c,r.cM[i]? = some c/\cs=c.cells
def x'(H:ah)(v:Value)(lp:bD):Prop:=∃v1 v2,v=.agg #[v1,v2]/\(hO H v1 lp.aj.length 5 λi cs=>∃c,lp.aj[i]? = some c/\cs=c.cells)/\CF H v2 lp.rows
theorem CF.ext{v:Value}{l:List di}(h:CF H v l)(e:Ext H H'):CF H' v l:=hO.imp h e λ_ _ _ ⟨r,vc,ao,e2,bd⟩=>⟨r,vc,ao,e2,bd.imp e λ_ _ _ h=>h⟩
theorem x'.ext{v:Value}{lp:bD}(h:x' H v lp)(e:Ext H H'):x' H' v lp:=by
 obtain⟨v1,v2,rfl,U,aa⟩:=h;exact⟨v1,v2,rfl,U.imp e λ_ _ _ h=>h,aa.ext e⟩
theorem x'.lp{v:Value}{lp:bD}(h:x' H v lp):ps H v lp:=by
 obtain⟨v1,v2,rfl,U,aa⟩:=h;exact⟨v1,v2,rfl,U.sl,zWa.imp aa.sl (λ_ _ e=>e) λ_ _ _ ⟨r,vc,ao,e2,bd⟩=>⟨r,vc,ao,e2,bd.sl⟩⟩
def YJ(X:aY):Prop:=∀(pm:Perm) (H:ah),cl pm H->∀(v:Value) (lp:bD),x' H v lp->Call X pm F.wk [v] H λr H'=>K pm H H'/\sL H' H.next r lp.cut
theorem Fy{row cs:List Value}{o w:Nat}(h:cX row o w=some cs):o+w<=row.length/\cs=(row.drop o).take w:=by
 unfold cX at h;by_cases ai:o+w<=row.length
 ·rw[dA,bZK ai,cond_true]at h;exact⟨ai,(bYd h).symm⟩
 ·rw[dA,bYy ai,cond_false]at h;cases h
theorem CG{row:List Value}{o w:Nat}(h:o+w<=row.length):cX row o w=some ((row.drop o).take w):=by
 unfold cX;rw[dA,bZK h,cond_true]
theorem ayx{row:List Value}{off w n:Nat}(aF:0<n)(h:∀i,i<n->∃cs,cX row (off+i*w) w=some cs):∃l,cX row off (n*w)=some l/\l.length=n*w/\∀i,i<n->cX l (i*w) w=cX row (off+i*w) w:=by
 obtain⟨cs,af⟩:=h (n-1) (by omega);have ai:=(Fy af).1;have e:(n-1)*w+w=n*w:=by
  rw[<-bZW];congr 1;omega
 have hlen:off+n*w<=row.length:=by omega
 refine⟨_,CG hlen,by simp;omega,λi hi=>?_⟩;have hi':i*w+w<=n*w:=by
  rw[<-bZW];exact hQ _ hi
 rw[CG (show off+i*w+w<=row.length by omega),CG (by simp;omega)];congr 1;rw[List.drop_take,List.take_take,List.drop_drop];congr 1;omega
theorem ayy{w by' n lo b:Nat}{okl:List Nat}{l:List Value}(aF:0<n)(aO:l.all fG=true)(hw:1<=w)(Fz:n<=1000)(hK:by'<=200):
 (iV w by' (.slice none 0 0) l n).runT ⟨lo,okl,some b⟩ H=some (.slice (some ⟨b,0,none⟩) n n,H.put b (.cells l (.n w)),[],[b]):=by
 have ai:n*by'<=17179869184:=bH (ie Fz hK) (by decide);unfold iV;simp only[aO];simp[Perm.make,Perm.pick,ai,hw,show ¬n=0 by omega,show n<=17179869184 by omega]
theorem YU{w by' lo b:Nat}{okl:List Nat}{l:List Value}:(iV w by' (.slice none 0 0) l 0).runT ⟨lo,okl,some b⟩ H=some (.slice none 0 0,H,[],[]):=by
 unfold iV;simp
def mD(H:ah)(b n w:Nat)(l:List Value):ah:=if n=0 then H else H.put b (.cells l (.n w))
def rI(b n:Nat):List Nat:=if n=0 then[] else[b]
theorem copyV{w by' n lo b:Nat}{okl:List Nat}{l:List Value}(aO:l.all fG=true)(hw:1<=w)(Fz:n<=1000)(hK:by'<=200):
 (iV w by' (.slice none 0 0) l n).runT ⟨lo,okl,some b⟩ H=some (sl b n,mD H b n w l,[],rI b n):=by
 by_cases h:n=0
 ·subst h;exact YU
 ·rw[ayy (by omega) aO hw Fz hK,eQ (by omega),mD,aU h,rI,aU h]
theorem JD{b n w c:Nat}{l:List Value}(h:c≠b):(mD H b n w l).get c=H.get c:=by
 unfold mD;split
 ·rfl
 ·rw[cq h]
@[simp] theorem PV{b n w:Nat}{l:List Value}:(mD H b n w l).next=H.next:=by unfold mD;split<;>rfl
theorem PW{b n w:Nat}{l:List Value}(h:0<n):(mD H b n w l).get b=some (.cells l (.n w)):=by
 unfold mD;rw[aU (by omega),dX]
theorem YV{b n x:Nat}(h:b≠x):gp (rI b n) [x]=true/\gp [x] (rI b n)=true:=by
 unfold rI;split
 ·exact⟨rfl,rfl⟩
 ·exact⟨kS h,kS (Ne.symm h)⟩
abbrev tyU0:Nat:=T.ayz
abbrev tyU1:Nat:=T.ayA
abbrev tyU2:Nat:=T.ayB
theorem YW(m:Nat):et (some (Value.int .i64 (if 6<m then 6 else(m:Int))))=some (min m 6):=by
 by_cases h:6<m
 ·rw[bm h,Nat.min_eq_right (by omega)];rfl
 ·rw[aU h,bXR (by omega)];simp[et]
theorem ayC(m:Nat):et (some (Value.int .i64 (if 8<m then 8 else(m:Int))))=some (min m 8):=by
 by_cases h:8<m
 ·rw[bm h,Nat.min_eq_right (by omega)];rfl
 ·rw[aU h,bXR (by omega)];simp[et]
theorem PX{m w cap by' k:Nat}{base:Option Addr}{P:Nat->List Value->Prop}(h:hO H (.slice base m cap) m w P)(ag:k<=m)(hw:1<=w)(ayD:k<=1000)(hK:by'<=200)(zt:∀i cs,P i cs->cs.all fG=true):
 ∃f l,(∀x∈f,∃y,H.get x=some y)/\(0<k->l.length=k*w/\∀i,i<k->∃cs,cX l (i*w) w=some cs/\P i cs)/\
  ∀H',Ext H H'->∀lo b okl,(nK w base 0 k cap cap).runT ⟨lo,okl,some b⟩ H'=some (.slice base k cap,H',f,[])/\
   (hV w (.slice base k cap) λnew n=>iV w by' (.slice none 0 0) new n).runT ⟨lo,okl,some b⟩ H'=some (sl b k,mD H' b k w l,f,rI b k):=by
 obtain⟨_,_,e,hm,aD,U⟩:=h;cases e
 cases base with
 | none=>
   obtain rfl:m=0:=aD rfl;obtain rfl:k=0:=by omega
   refine⟨[],[],(by simp),λh=>absurd h (Nat.lt_irrefl 0),λH' _ lo b okl=>⟨by unfold nK;simp,?_⟩⟩;unfold hV;exact YU
 | some a=>
   obtain⟨c,off,row,rfl,aa,aq,a8⟩:=U _ rfl;have ai:k*w<=m*w:=hQ _ ag;have aO:∀i,i<k->∃cs,cX ((row.drop off).take (k*w)) (i*w) w=some cs/\P i cs:=λi hi=>by
    obtain⟨cs,cg,dj⟩:=a8 i (by omega);obtain⟨l,ao,e2,bd⟩:=ayx (n:=k) (row:=row) (off:=off) (w:=w) (by omega) (λi hi=>(a8 i (by omega)).imp λ_ h=>h.1);have:=(Fy ao).2;exact⟨cs,by rw[<-this,bd i hi,cg],dj⟩
   refine⟨[c],(row.drop off).take (k*w),λx az=>by rw[DZ.1 az];exact aa.elim (λh=>⟨_,h⟩) λh=>⟨_,h⟩,λCH=>⟨by simp;omega,aO⟩,λH' az lo b okl=>⟨?_,?_⟩⟩
   ·unfold nK
    rcases aa with aa | aa
    ·simp[show k<=cap by omega,az _ _ aa]
    ·simp[show k<=cap by omega,az _ _ aa]
   ·have mc:((row.drop off).take (k*w)).all fG=true:=by
     rw[hz];intro v aw;obtain⟨p,aC,rfl⟩:=bVp aw;have ri:p<k*w:=by
      have:=aC;simp at this;omega
     have aV:p/w<k:=bXO (by rw[gw];exact ri);obtain⟨cs,cg,dj⟩:=aO (p/w) aV;have j4:=(Fy cg).2;have Ei:=hz.1 (zt _ _ dj);have ayE:p%w<w:=bYT _ (by omega);have e:p/w*w+p%w=p:=by rw[gw];exact bWN p w
     refine Ei _ ?_;rw[j4];refine List.mem_iff_getElem?.2 ⟨p%w,?_⟩;rw[pT ayE,o',e];exact hG aC
    unfold hV
    rcases aa with aa | aa
    ·simp only[bF.runT,az _ _ aa,rowOf];rw[CG (by show off+k*w<=row.length;omega)];simp only;rw[copyV mc hw ayD hK]
    ·simp only[bF.runT,az _ _ aa,rowOf];rw[CG (by show off+k*w<=row.length;omega)];simp only;rw[copyV mc hw ayD hK]
def jk(L:List Value)(w n:Nat)(f:Nat->List Value):Prop:=L.length=n*w/\∀j,j<n->(f j).length=w/\∀k,k<w->L[j*w+k]? = (f j)[k]?
theorem jk.of{L:List Value}{w n:Nat}{f:Nat->List Value}(aO:L.length=n*w)(h:∀j,j<n->cX L (j*w) w=some (f j)):jk L w n f:=by
 refine⟨aO,λj aH=>?_⟩;obtain⟨U,aa⟩:=Fy (h j aH);refine⟨by rw[aa];simp;omega,λk ag=>?_⟩;rw[aa,pT ag,o']
theorem jk.lt{L:List Value}{w n j k:Nat}{f:Nat->List Value}(h:jk L w n f)(aH:j<n)(ag:k<w):j*w+k<L.length:=by
 have ai:j*w+w<=n*w:=by rw[<-bZW];exact hQ _ aH
 rw[h.1];omega
theorem jk.row{L:List Value}{w n j:Nat}{f:Nat->List Value}(h:jk L w n f)(aH:j<n):cX L (j*w) w=some (f j):=by
 have ai:j*w+w<=n*w:=by rw[<-bZW];exact hQ _ aH
 rw[CG (by rw[h.1];exact ai)];congr 1;apply bYQ;intro k;by_cases ag:k<w
 ·rw[pT ag,o'];exact(h.2 j aH).2 k ag
 ·rw[jq (by simp;omega),jq (by rw[(h.2 j aH).1];omega)]
theorem jk.set{L:List Value}{w n j k:Nat}{f f':Nat->List Value}(h:jk L w n f)(aH:j<n)(ag:k<w)(v:Value)(he:f' j=(f j).set k v)(aF:∀i,i<n->i≠j->f' i=f i):jk (L.set (j*w+k) v) w n f':=by
 refine⟨by simp[h.1],λi hi=>⟨?_,λp aC=>?_⟩⟩
 ·by_cases e:i=j
  ·subst e;rw[he];simp;exact(h.2 i hi).1
  ·rw[aF i hi e];exact(h.2 i hi).1
 ·by_cases e:i=j
  ·subst e;rw[he];by_cases e2:p=k
   ·subst e2;rw[bVe (h.lt aH ag),bVe (by rw[(h.2 i hi).1];exact ag)]
   ·rw[bWM (by omega),bWM (Ne.symm e2)];exact(h.2 i hi).2 p aC
  ·rw[aF i hi e,bWM]
   ·exact(h.2 i hi).2 p aC
   ·rcases Nat.lt_or_gt_of_ne e with e | e
    ·have:i*w+w<=j*w:=by rw[<-bZW];exact hQ _ e
     omega
    ·have:j*w+w<=i*w:=by rw[<-bZW];exact hQ _ e
     omega
theorem jk.ex{l:List Value}{w n:Nat}{P:Nat->List Value->Prop}(aO:l.length=n*w)(h:∀i,i<n->∃cs,cX l (i*w) w=some cs/\P i cs):∃f,jk l w n f/\∀i,i<n->P i (f i):=by
 refine⟨λi=>(cX l (i*w) w).getD [],jk.of aO λj aH=>?_,λj aH=>?_⟩
 ·obtain⟨cs,e,_⟩:=h j aH;rw[e];rfl
 ·obtain⟨cs,e,p⟩:=h j aH;show P j ((cX l (j*w) w).getD []);rw[e];exact p
end Go.Dam.C
namespace Go.Dam.C
open Go Go.Dam
variable{X:aY}{pm:Perm}{H H' cL H0:ah}{n:Nat}
theorem bp.mD(u:bp pm n H H'){b k w:Nat}{l:List Value}(h:n<=b)(aK:H'.get b=none)(ai:b<H'.next):bp pm n H (C.mD H' b k w l):=by
 unfold C.mD;split
 ·exact u
 ·exact bp.fill u h aK ai _
theorem zX{a b:List Nat}{n:Nat}(h:∀x∈a,x<n)(gJ:∀x∈b,n<=x):gp a b=true/\gp b a=true:=by
 unfold gp;simp only[hz,mN,List.contains_eq_mem,decide_eq_false_iff_not];exact⟨λx az ai=>by have:=h x az;have:=gJ x ai;omega,λx az ai=>by have:=h x ai;have:=gJ x az;omega⟩
theorem JE{b n x:Nat}(h:x∈rI b n):x=b:=by
 unfold rI at h;split at h
 ·cases h
 ·simpa using h
structure iR(pm:Perm)(H0 H:ah)(bJ cO dZ br dn dc:Nat)(gM eW:Nat->List Value):Prop where
 k:K pm H0 H
 r:H.get bJ=some (.cells [.slice none 0 0,.slice none 0 0] (.t tyU1))
 x:H.get cO=some (.cells [sl dZ dn,sl br dc] (.t tyU2))
 c:0<dn->∃L,H.get dZ=some (.cells L (.n 5))/\jk L 5 dn gM
 w:0<dc->∃L,H.get br=some (.cells L (.n 5))/\jk L 5 dc eW
structure CI(H0:ah)(bJ cO dZ br:Nat):Prop where
 U:H0.next<=bJ
 aa:bJ<dZ
 aq:dZ<br
 a8:br<cO
variable{bJ cO dZ br dn dc:Nat}{gM eW:Nat->List Value}
theorem iR.up(s:iR pm H0 H bJ cO dZ br dn dc gM eW)(u:K pm H H'):iR pm H0 H' bJ cO dZ br dn dc gM eW where
 k:=K.trans s.k u
 r:=u.some s.k.aL s.r
 x:=u.some s.k.aL s.x
 c:=λh=>(s.c h).imp λ_ h=>⟨u.some s.k.aL h.1,h.2⟩
 w:=λh=>(s.w h).imp λ_ h=>⟨u.some s.k.aL h.1,h.2⟩
theorem iR.put(s:iR pm H0 H bJ cO dZ br dn dc gM eW)(q:CI H0 bJ cO dZ br){b:Nat}{y x:cj}(ai:cO<b)(aK:H.get b=some y)(bu:∀o,y≠.eE o):iR pm H0 (H.put b x) bJ cO dZ br dn dc gM eW where
 k:=bp.put s.k (by have:=q.U;have:=q.aa;have:=q.aq;have:=q.a8;omega) aK bu _
 r:=by rw[cq (by have:=q.U;have:=q.aa;have:=q.aq;have:=q.a8;omega)];exact s.r
 x:=by rw[cq (by omega)];exact s.x
 c:=λh=>(s.c h).imp λ_ h=>⟨by rw[cq (by have:=q.aq;have:=q.a8;omega)];exact h.1,h.2⟩
 w:=λh=>(s.w h).imp λ_ h=>⟨by rw[cq (by have:=q.a8;omega)];exact h.1,h.2⟩
theorem iR.row(s:iR pm H0 H bJ cO dZ br dn dc gM eW)(q:CI H0 bJ cO dZ br){PY:Nat->List Value}{i k:Nat}{v:Value}(hi:i<dc)(ag:k<5)(bc:PY i=(eW i).set k v)(aF:∀j,j<dc->j≠i->PY j=eW j){L:List Value}(bC:H.get br=some (.cells L (.n 5))):
 iR pm H0 (H.put br (.cells (L.set (i*5+k) v) (.n 5))) bJ cO dZ br dn dc gM PY where
 k:=bp.put s.k (by have:=q.U;have:=q.aa;have:=q.aq;have:=q.a8;omega) bC (by simp) _
 r:=by rw[cq (by have:=q.U;have:=q.aa;have:=q.aq;have:=q.a8;omega)];exact s.r
 x:=by rw[cq (by have:=q.a8;omega)];exact s.x
 c:=λh=>(s.c h).imp λ_ h=>⟨by rw[cq (by have:=q.aq;have:=q.a8;omega)];exact h.1,h.2⟩
 w:=λh=>by
  obtain⟨L',U,aa⟩:=s.w h;rw[bC]at U;cases U;exact⟨_,dX,aa.set hi ag v bc aF⟩
theorem iR.col(s:iR pm H0 H bJ cO dZ br dn dc gM eW)(q:CI H0 bJ cO dZ br){PZ:Nat->List Value}{i k:Nat}{v:Value}(hi:i<dn)(ag:k<5)(bc:PZ i=(gM i).set k v)(aF:∀j,j<dn->j≠i->PZ j=gM j){L:List Value}(bC:H.get dZ=some (.cells L (.n 5))):
 iR pm H0 (H.put dZ (.cells (L.set (i*5+k) v) (.n 5))) bJ cO dZ br dn dc PZ eW where
 k:=bp.put s.k (by have:=q.U;have:=q.aa;have:=q.aq;have:=q.a8;omega) bC (by simp) _
 r:=by rw[cq (by have:=q.U;have:=q.aa;have:=q.aq;have:=q.a8;omega)];exact s.r
 x:=by rw[cq (by have:=q.aq;have:=q.a8;omega)];exact s.x
 c:=λh=>by
  obtain⟨L',U,aa⟩:=s.c h;rw[bC]at U;cases U;exact⟨_,dX,aa.set hi ag v bc aF⟩
 w:=λh=>(s.w h).imp λ_ h=>⟨by rw[cq (by have:=q.aq;have:=q.a8;omega)];exact h.1,h.2⟩
def JF(c:fb):fb:={c with v:=c.v.take 20}
def ayF:fb:=⟨0,[]⟩
theorem ayG(al:bWo X)(g0:cl pm H0)(q:CI H0 bJ cO dZ br)(s:iR pm H0 H bJ cO dZ br dn dc gM eW)(oB:dc<=6){i:Nat}(hi:i<dc){r:di}{vc:Value}(an:eW i=r.cells vc)
 (nd:hO H0 vc r.cM.length 2 λi cs=>∃c,r.cM[i]? = some c/\cs=c.cells) {R:c'}
 (dD:∀l' H' rJ,Sub [(27,.int .i64 (i:Int)),(26,.int .i64 (dc:Int)),(2,.pointer (some ⟨bJ,0,none⟩)),(3,.pointer (some ⟨cO,0,none⟩))] l'->iR pm H0 H' bJ cO dZ br dn dc gM (λj=>if j=i then r.cut.cells rJ else eW j)->nX H' rJ r.cut.cM->np H.next rJ->(∀b y,b≠br->H.get b=some y->H'.get b=some y)->R .normal l' H'):
 wp X pm (.code (.seq (.aT [m 29 27,m 4 29]) C.P0)) [(28,.bool true),(27,.int .i64 (i:Int)),(26,.int .i64 (dc:Int)),(2,.pointer (some ⟨bJ,0,none⟩)),(3,.pointer (some ⟨cO,0,none⟩))] H [] R:=by
 have g:=s.k.aL;have bn:=q.U;have bh:=q.aa;have cu:=q.aq;have e9:=q.a8;have eT:=g.lt s.x;obtain⟨L,bC,mV⟩:=s.w (by omega);have CJ:=s.x;rw[eQ (show 0<dc by omega)]at CJ;have e2:L[i*5+2]? = some vc:=by rw[(mV.2 i hi).2 2 (by decide),an];rfl
 obtain⟨base,cap,rfl,_⟩:=id nd;obtain⟨f,ak,bc,Ek,gy⟩:=PX (by':=24) (k:=min r.cM.length 8) (nd.imp (s.k.ext g0) λ_ _ _ h=>h) (Nat.min_le_left _ _) (by decide) (by omega) (by decide) (λi cs ⟨c,_,e⟩=>by rw[e];rfl);have CK:∀x∈f,x<H.next:=λx az=>by obtain⟨y,bu⟩:=bc x az;exact g.lt bu
 obtain⟨eG,pZ⟩:=bZa (min r.cM.length 8);have m8:=ayC r.cM.length;rw[<-pZ]at gy Ek m8;obtain⟨z,bl⟩:=bZa (H.next);have bE:K pm H (H.up 22):=(K.refl g).up 22;have cy:=(gy _ (bE.ext g) pm.lo (z+17) pm.ok).1;have dd:=(gy _ (bE.ext g) pm.lo (z+18) pm.ok).2;obtain⟨fL,fc⟩:=bZa (mD (H.up 22) (z+18) eG 2 ak);have hD:K pm H fL:=by rw[fc];exact bp.mD bE (by omega) (by rw[bl];exact g.none 18) (by show z+18<H.next+22;omega)
 rw[<-fc]at dd;have oP:∀j,j≠18->fL.get (z+j)=none:=λj aH=>by rw[fc,JD (by omega),bl];exact g.none j
 have P1:fL.next=z+22:=by rw[fc,PV,bl];rfl
 have YX:=hD.some g bC;have YY:=hD.some g CJ;obtain⟨fV,fg⟩:=bZa (fL.put br (.cells (L.set (i*5+2) (sl (z+18) eG)) (.n 5)));have s2:iR pm H0 fV bJ cO dZ br dn dc gM (λj=>if j=i then r.cells (sl (z+18) eG) else eW j):=by
  rw[fg];exact(s.up hD).row q hi (by decide) (by rw[an];simp[di.cells]) (λj _ h=>by simp[h]) YX
 have oN:∀b i,fG (sl b i)=true:=λb i=>by unfold sl;split<;>rfl
 have oO:∀b i,(sl b i).cells=#[sl b i]:=λb i=>by unfold sl;split<;>rfl
 have hlen:=mV.lt hi (show 2<5 by decide);have JG:setCells L (i*5+2) [sl (z+18) eG]=some (L.set (i*5+2) (sl (z+18) eG)):=setCells_one hlen;have ya:=λo=>jh (lo:=pm.lo) (ok:=pm.ok) (o:=o) (b:=br) (by have:=g0.lo;omega);have d1:=(zX (a:=[cO]) (b:=rI (z+18) eG) (n:=z) (λx az=>by rw[DZ.1 az];omega) (λx az=>by rw[JE az];omega)).2;have hP:cO<z:=by omega
 have lf:br<z:=by omega
 have mS:=λj=>(by rw[bl];exact g.none j:(H.up 22).get (z+j)=none);have FA:=(by rw[bl];exact g.fo:(H.up 22).get z=none);simp[-JH];refine eg.of g.lo rfl ?_;rw[<-bl];simp[dt,mS,FA,CJ,bC,hi,e2,m8,cy,dd,oP,YX,oO,oN,JG,ya,<-fg,d1,hP,lf,dx,dm,ez,-hV,-JH];refine⟨⟨λx az=>.inl (.inl (.inl (by have:=CK x az;omega))),λx az=>.inl (.inl (.inl (by have:=CK x az;omega)))⟩,?_⟩;clear m8 cy dd oP YY JG mS FA;have g2:=s2.k.aL;have YZ:=s2.x;rw[eQ (show 0<dc by omega)]at YZ;obtain⟨kz,wy,Y0⟩:=s2.w (by omega);have n2:fV.next=z+22:=by rw[fg];exact P1
 have bd:kz[i*5+3]? = some (aW r.rhs):=by rw[(Y0.2 i hi).2 3 (by decide)];simp[di.cells]
 obtain⟨fW,fp⟩:=bZa ((fV.up 13).put br (.cells (kz.set (i*5+3) (aW (r.rhs.take 30))) (.n 5)));have pB:K pm fV (fV.up 13):=(K.refl g2).up 13;have de:iR pm H0 fW bJ cO dZ br dn dc gM (λj=>if j=i then({r with rhs:=r.rhs.take 30}:di).cells (sl (z+18) eG) else eW j):=by
  rw[fp];exact(s2.up pB).row q hi (by decide) (by simp[di.cells]) (λj _ h=>by simp[h]) wy
 have P2:setCells kz (i*5+3) [aW (r.rhs.take 30)]=some (kz.set (i*5+3) (aW (r.rhs.take 30))):=setCells_one (Y0.lt hi (by decide));have h1:cO<fV.next:=by omega
 have dO:br<fV.next:=by omega
 simp[-FB];refine eg.of g2.lo rfl ?_;simp[dt,g2.none,g2.fo,YZ,wy,hi,bd,-FB];refine bZx pB.aL (vs:=[aW r.rhs,.int .i64 30]) (by simp[g2.none]) (λpm' bS=>kM bS (zK al (n:=30) (by omega))) ?_;rintro _ _-⟨rfl,rfl⟩;simp[g2.none,wy,hi,P2,ya,<-fp,h1,dO,dx,dm,eJ,ez,gI,-FB];have g3:=de.k.aL;have Y1:=de.x;rw[eQ (show 0<dc by omega)]at Y1;obtain⟨JI,JJ,ayH⟩:=de.w (by omega);have b1:JI[i*5+2]? = some (sl (z+18) eG):=by rw[(ayH.2 i hi).2 2 (by decide)];simp[di.cells]
 obtain⟨aGo,jQ⟩:∃a,sl (z+18) eG=.slice a eG eG:=by
  unfold sl;split
  ·rename_i h;exact⟨none,by rw[h]⟩
  ·exact⟨_,rfl⟩
 rw[jQ]at b1;simp[Y1,JJ,hi,b1,-P3];obtain⟨cQ,mY⟩:∃cQ:Nat->fb,∀j,j<r.cM.length->r.cM[j]? = some (cQ j):=⟨λj=>r.cM.getD j ayF,λj aH=>by simp[aH]⟩;have CH:∀b y,b≠br->H.get b=some y->fW.get b=some y:=λb y ai h=>by
  rw[fp,cq ai,zY,fg,cq ai];exact hD.some g h
 have dp:0<eG->∃M,fW.get (z+18)=some (.cells M (.n 2))/\jk M 2 eG (λj=>if j<0 then(JF (cQ j)).cells else(cQ j).cells):=λh=>by
  obtain⟨U,aa⟩:=Ek h;refine⟨ak,by rw[fp,cq (by omega),zY,fg,cq (by omega),fc];exact PW h,jk.of U λj aH=>?_⟩;obtain⟨cs,ao,c,e2,rfl⟩:=aa j aH;rw[ao];rw[mY j (by omega)]at e2;cases e2;simp
 clear fc fg fp Ek gy
 refine gG (σ:=Unit) eG (λ_ _=>[(27,.int .i64 (i:Int)),(26,.int .i64 (dc:Int)),(2,.pointer (some ⟨bJ,0,none⟩)),(3,.pointer (some ⟨cO,0,none⟩)),(4,.int .i64 (i:Int))])
  (λk _ H'=>iR pm H0 H' bJ cO dZ br dn dc gM (λj=>if j=i then({r with rhs:=r.rhs.take 30}:di).cells (sl (z+18) eG) else eW j)/\(0<eG->∃M,H'.get (z+18)=some (.cells M (.n 2))/\jk M 2 eG (λj=>if j<k then(JF (cQ j)).cells else(cQ j).cells))/\∀b y,b≠br->H.get b=some y->H'.get b=some y)
  () (by decide) (by omega) (by simp) ⟨de,dp,CH⟩ (by simp) ?_ ?_
 ·rintro k _ qJ ag ⟨qK,P4,P5⟩;obtain⟨M,CL,FC⟩:=P4 (by omega);have nr:=qK.k.aL;have P6:=qK.x;rw[eQ (show 0<dc by omega)]at P6;obtain⟨ayI,Y2,ayJ⟩:=qK.w (by omega);have cK:ayI[i*5+2]? = some (sl (z+18) eG):=by rw[(ayJ.2 i hi).2 2 (by decide)];simp[di.cells]
  rw[eQ (show 0<eG by omega)]at cK;obtain⟨eH,Y3⟩:=bZa ((cQ k).v);have il:M[k*2+1]? = some (aW eH):=by rw[(FC.2 k ag).2 1 (by decide),Y3];simp[fb.cells]
  have Y4:K pm qJ (qJ.up 21):=(K.refl nr).up 21;obtain⟨sM,yg⟩:=bZa ((qJ.up 21).put (z+18) (.cells (M.set (k*2+1) (aW (eH.take 20))) (.n 2)));have P7:setCells M (k*2+1) [aW (eH.take 20)]=some (M.set (k*2+1) (aW (eH.take 20))):=setCells_one (FC.lt ag (by decide));have ayK:=λo=>jh (lo:=pm.lo) (ok:=pm.ok) (o:=o) (b:=z+18) (by have:=g0.lo;omega);have rK:iR pm H0 sM bJ cO dZ br dn dc gM (λj=>if j=i then({r with rhs:=r.rhs.take 30}:di).cells (sl (z+18) eG) else eW j):=by
   rw[yg];exact(qK.up Y4).put q (by omega) CL (by simp)
  have m1:=nr.lt P6;have m2:=nr.lt Y2;have m3:=nr.lt CL;have aGp:z+18≠br:=by omega
  simp;refine eg.of nr.lo rfl ?_;simp[dt,nr.none,nr.fo,P6,Y2,hi,cK,CL,ag,il];refine bZx Y4.aL (vs:=[aW eH,.int .i64 20]) (by simp[nr.none]) (λpm' bS=>kM bS (zK al (n:=20) (by omega))) ?_;rintro _ _-⟨rfl,rfl⟩;simp[nr.none,CL,ag,P7,ayK,<-yg,m1,m2,m3,dx,dm,eJ,ez,gI];refine⟨rK,λ_=>⟨_,by rw[yg];exact dX,FC.set ag (by decide) _ ?_ λj aH Vh=>?_⟩,λb y ai h=>?_⟩
  ·simp[JF,fb.cells,Y3]
  ·by_cases e:j<k
   ·simp[e,show j<k+1 by omega]
   ·simp[e,show ¬j<k+1 by omega]
  ·have:=g.lt h;rw[yg,cq (by omega),zY];exact P5 b y ai h
 ·rintro _ qJ ⟨qK,P4,P5⟩;simp;have d':r.cut.cM.length=eG:=by simp[di.cut];omega
  refine dD _ _ (sl (z+18) eG) (by simp) ?_ ?_ ?_ P5
  ·have e:(λj=>if j=i then r.cut.cells (sl (z+18) eG) else eW j)=(λj=>if j=i then({r with rhs:=r.rhs.take 30}:di).cells (sl (z+18) eG) else eW j):=by
    funext j;split<;>rfl
   rw[e];exact qK
  ·by_cases aD:eG=0
   ·refine⟨none,0,by rw[d',aD];rfl,λj aH=>by omega⟩
   ·obtain⟨M,CL,FC⟩:=P4 (by omega);refine⟨_,eG,by rw[d',eQ (by omega)],λj aH=>⟨z+18,0,_,M,_,rfl,CL,rfl,by rw[Nat.zero_add];exact FC.row (by omega),JF (cQ j),?_,by simp[show j<eG by omega]⟩⟩;have qG:j<8:=by omega
    simp[di.cut,qG,mY j (by omega)];rfl
  ·unfold sl;split
   ·trivial
   ·rename_i aD;exact⟨by show H.next<=z+18;omega,by omega⟩
end Go.Dam.C
namespace Go.Dam.C
open Go Go.Dam
variable{X:aY}{pm:Perm}{H H' cL H0:ah}{n bJ cO dZ br dn dc:Nat}{gM eW:Nat->List Value}
theorem ayL(al:bWo X)(g0:cl pm H0)(q:CI H0 bJ cO dZ br)(s:iR pm H0 H bJ cO dZ br dn dc gM eW)(sN:dn<=6){i:Nat}(hi:i<dn){c:eu}(af:gM i=c.cells){R:c'}
 (dD:∀l' H',Sub [(98,.int .i64 (i:Int)),(97,.int .i64 (dn:Int)),(2,.pointer (some ⟨bJ,0,none⟩)),(3,.pointer (some ⟨cO,0,none⟩))] l'->iR pm H0 H' bJ cO dZ br dn dc (λj=>if j=i then c.cut.cells else gM j) eW->(∀b y,b≠dZ->H.get b=some y->H'.get b=some y)->R .normal l' H'):
 wp X pm (.code (.seq (.aT [m 100 98,m 6 100]) C.P8)) [(99,.bool true),(98,.int .i64 (i:Int)),(97,.int .i64 (dn:Int)),(2,.pointer (some ⟨bJ,0,none⟩)),(3,.pointer (some ⟨cO,0,none⟩))] H [] R:=by
 have g:=s.k.aL;have bn:=q.U;have bh:=q.aa;have cu:=q.aq;have e9:=q.a8;have eT:=g.lt s.x;obtain⟨L,bC,mV⟩:=s.c (by omega);have CJ:=s.x;rw[eQ (show 0<dn by omega)]at CJ;have hP:=g.lt bC;have ao:L[i*5+1]? = some (aW c.low):=by rw[(mV.2 i hi).2 1 (by decide),af];rfl
 have e2:L[i*5+2]? = some (aW c.up):=by rw[(mV.2 i hi).2 2 (by decide),af];rfl
 have bd:L[i*5+3]? = some (aW c.cost):=by rw[(mV.2 i hi).2 3 (by decide),af];rfl
 have cR:=mV.lt hi (show 1<5 by decide);have b9:=mV.lt hi (show 2<5 by decide);have fK:=mV.lt hi (show 3<5 by decide);have bE:K pm H (H.up 39):=(K.refl g).up 39;have sg:=λo=>jh (lo:=pm.lo) (ok:=pm.ok) (o:=o) (b:=dZ) (by have:=g0.lo;omega);obtain⟨j9,FD⟩:=bZa (L.set (i*5+1) (aW (c.low.take 20)));obtain⟨kz,wy⟩:=bZa (j9.set (i*5+2) (aW (c.up.take 20)));obtain⟨JI,JJ⟩:=bZa (kz.set (i*5+3) (aW (c.cost.take 20)));obtain⟨fL,fc⟩:=bZa ((H.up 39).put dZ (.cells j9 (.n 5)));obtain⟨fV,fg⟩:=bZa (fL.put dZ (.cells kz (.n 5)));obtain⟨fW,fp⟩:=bZa (fV.put dZ (.cells JI (.n 5)));have cx:=bZC fc;have a2:=bZC fg;have JG:setCells L (i*5+1) [aW (c.low.take 20)]=some j9:=by rw[FD];exact setCells_one cR
 have P2:setCells j9 (i*5+2) [aW (c.up.take 20)]=some kz:=by rw[wy];exact setCells_one (by rw[FD];simpa using b9)
 have P7:setCells kz (i*5+3) [aW (c.cost.take 20)]=some JI:=by rw[JJ];exact setCells_one (by rw[wy,FD];simpa using fK)
 have s1:iR pm H0 fL bJ cO dZ br dn dc (λj=>if j=i then({c with low:=c.low.take 20}:eu).cells else gM j) eW:=by
  rw[fc,FD];exact(s.up bE).col q hi (by decide) (by rw[af];simp[eu.cells]) (λj _ h=>by simp[h]) bC
 have s2:iR pm H0 fV bJ cO dZ br dn dc (λj=>if j=i then({c with low:=c.low.take 20,up:=c.up.take 20}:eu).cells else gM j) eW:=by
  rw[fg,wy];exact s1.col q hi (by decide) (by simp[eu.cells]) (λj _ h=>by simp[h]) cx
 have de:iR pm H0 fW bJ cO dZ br dn dc (λj=>if j=i then c.cut.cells else gM j) eW:=by
  rw[fp,JJ];exact s2.col q hi (by decide) (by simp[eu.cells,eu.cut]) (λj _ h=>by simp[h]) a2
 have Y5:∀j,fL.get (H.next+j)=none/\fV.get (H.next+j)=none:=λj=>by
  have U:fL.get (H.next+j)=none:=by rw[fc,cq (by omega)];exact g.none j
  exact⟨U,by rw[fg,cq (by omega)];exact U⟩
 have ayM:gp [dZ] [cO]=true:=kS (by omega);have ayN:=λj=>(Y5 j).1;have ayO:=λj=>(Y5 j).2;simp;refine eg.of g.lo rfl ?_;simp[dt,g.none,g.fo,CJ,bC,hi,ao,e2,bd];refine bZx bE.aL (vs:=[aW c.low,.int .i64 20]) (by simp[g.none]) (λpm' bS=>kM bS (zK al (n:=20) (by omega))) ?_;rintro _ _-⟨rfl,rfl⟩;simp;refine bZx bE.aL (vs:=[aW c.up,.int .i64 20]) (by simp[g.none]) (λpm' bS=>kM bS (zK al (n:=20) (by omega))) ?_;rintro _ _-⟨rfl,rfl⟩;simp;refine bZx bE.aL (vs:=[aW c.cost,.int .i64 20]) (by simp[g.none]) (λpm' bS=>kM bS (zK al (n:=20) (by omega))) ?_;rintro _ _-⟨rfl,rfl⟩;simp[g.none,bC,hi,JG,sg,<-fc,ayN,cx,P2,<-fg,ayO,a2,P7,<-fp,ayM,eT,hP,dx,dm,eJ,ez,gI];refine dD _ _ ?_ de λb y ai h=>?_
 ·simp
 rw[fp,cq ai,fg,cq ai,fc,cq ai,zY];exact h
end Go.Dam.C
namespace Go.Dam.C
open Go Go.Dam
variable{X:aY}{pm:Perm}{H H' cL H0:ah}{n:Nat}
theorem jk.Y6{b k w:Nat}{f:Nat->List Value}{P:Nat->List Value->Prop}(h:0<k->∃L,H.get b=some (.cells L (.n w))/\jk L w k f)(aC:∀i,i<k->P i (f i)):zWa H (sl b k) k w P:=by
 by_cases ag:0<k
 ·obtain⟨L,U,aa⟩:=h ag;exact⟨_,k,eQ ag,λi hi=>⟨b,0,_,L,_,rfl,U,rfl,by rw[Nat.zero_add];exact aa.row hi,aC i hi⟩⟩
 ·obtain rfl:k=0:=by omega
  exact⟨none,0,rfl,λi hi=>by omega⟩
theorem np.mono{ba n1:Nat}{v:Value}(h:np ba v)(aF:n1<=ba):np n1 v:=by
 unfold np at*
 split
 ·exact⟨bH aF h.1,h.2⟩
 ·trivial
theorem np.sl{ba b k:Nat}(h:ba<=b):np ba (sl b k):=by
 unfold C.sl;split
 ·trivial
 ·rename_i aD;exact⟨h,by omega⟩
theorem zWa.ne{v:Value}{m w ba b:Nat}{P:Nat->List Value->Prop}(h:zWa H v m w P)(bc:np ba v)(ai:b<ba)(aK:∀c y,c≠b->H.get c=some y->H'.get c=some y):zWa H' v m w P:=by
 obtain⟨base,cap,rfl,eU⟩:=h.ex;refine⟨base,cap,rfl,λi hi=>?_⟩;obtain⟨c,off,y,row,cs,rfl,e2,bd,b1,cK⟩:=eU i hi;have bc:ba<=c:=bc.1;exact⟨c,off,y,row,cs,rfl,aK _ _ (by omega) e2,bd,b1,cK⟩
theorem ayP(al:bWo X):YJ X:=by
 intro pm H g v lp aw;refine Call.h6 al.wk rfl λQ bU=>?_;obtain⟨v1,v2,rfl,af,an⟩:=aw;obtain⟨base,cap,rfl,kj⟩:=id af;obtain⟨dG,dE,rfl,rr⟩:=id an;obtain⟨jW,jR⟩:=bZa (H.next);obtain⟨H1,cw⟩:=bZa (H.new (.cells [.slice base lp.aj.length cap,.slice dG lp.rows.length dE] (.t tyU0)));have av:=bZv g cw;have g1:=av.aL;have h4:=bZQ cw jR;obtain⟨bJ,zq3⟩:=bZa (H1.next);obtain⟨aJ,ee⟩:=bZa (H1.new (.cells [.slice none 0 0,.slice none 0 0] (.t tyU1)));have aI:=bZv g1 ee;have g2:=aI.aL;have ayQ:=bZQ ee zq3;have P9:=aI.some g1 h4;have h8:=av.trans aI;have n1:=bV cw jR;have n2:=bV ee zq3;obtain⟨gM,lc,ayR,JK,mY⟩:=PX (by':=72) (k:=min lp.aj.length 6) (af.imp (h8.ext g) λ_ _ _ h=>h) (Nat.min_le_left _ _) (by decide) (by omega) (by decide) (λi cs ⟨c,_,e⟩=>by rw[e];rfl);obtain⟨eW,cc,e8,P',nk⟩:=PX (by':=80) (k:=min lp.rows.length 6) (hO.imp an (h8.ext g) λ_ _ _ h=>h) (Nat.min_le_left _ _) (by decide) (by omega) (by decide) (λi cs ⟨c,vc,_,e,e2⟩=>by
  rw[e];obtain⟨_,_,bd,_⟩:=e2;rw[bd];rfl)
 have Qa:∀x∈gM,x<aJ.next:=λx az=>by obtain⟨y,bu⟩:=ayR x az;exact g2.lt bu
 have JL:∀x∈eW,x<aJ.next:=λx az=>by obtain⟨y,bu⟩:=e8 x az;exact g2.lt bu
 obtain⟨dn,sN⟩:=bZa (min lp.aj.length 6);obtain⟨dc,oB⟩:=bZa (min lp.rows.length 6);rw[<-sN]at mY JK;rw[<-oB]at nk P';have m1:=YW lp.aj.length;have m2:=YW lp.rows.length;rw[<-sN]at m1;rw[<-oB]at m2;obtain⟨z,bl⟩:=bZa (aJ.next);have bE:K pm aJ (aJ.up 19):=(K.refl g2).up 19;have Y7:=bE.ext g2;obtain⟨fL,fc⟩:=bZa (mD (aJ.up 19) (z+7) dn 5 lc);have hD:K pm aJ fL:=by rw[fc];exact bp.mD bE (by omega) (by rw[bl];exact g2.none 7) (by show z+7<aJ.next+19;omega)
 have cy:=(mY _ Y7 pm.lo (z+6) pm.ok).1;have dd:=(mY _ Y7 pm.lo (z+7) pm.ok).2;have Y8:=hD.ext g2;obtain⟨fV,fg⟩:=bZa (mD fL (z+15) dc 5 cc);have oP:∀j,j≠7->fL.get (z+j)=none:=λj aH=>by rw[fc,JD (by omega),bl];exact g2.none j
 have P1:fL.next=z+19:=by rw[fc,PV,bl];rfl
 have Y9:K pm aJ fV:=by rw[fg];exact bp.mD hD (by omega) (oP 15 (by decide)) (by omega)
 have dy:=(nk _ Y8 pm.lo (z+14) pm.ok).1;have iZ:=(nk _ Y8 pm.lo (z+15) pm.ok).2;have rL:∀j,j≠7->j≠15->fV.get (z+j)=none:=λj aH j8=>by rw[fg,JD (by omega)];exact oP j aH
 have ayS:fV.next=z+19:=by rw[fg,PV,P1]
 rw[<-fc]at dd;rw[<-fg]at iZ;have ayT:=hD.some g2 P9;have ayU:=Y9.some g2 P9;simp[g.pick,g.make,ptr,<-jR,<-cw,<-zq3,<-ee,-JM];refine eg.of g2.lo rfl ?_;rw[<-bl];have mS:=λj=>(by rw[bl];exact g2.none j:(aJ.up 19).get (z+j)=none);have FA:=(by rw[bl];exact g2.fo:(aJ.up 19).get z=none);have oN:∀b i,fG (sl b i)=true:=λb i=>by unfold sl;split<;>rfl
 have oO:∀b i,(sl b i).cells=#[sl b i]:=λb i=>by unfold sl;split<;>rfl
 obtain⟨fW,fp⟩:=bZa (fV.put (z+17) (.cells [.slice none 0 0,.slice none 0 0] (.t tyU2)));obtain⟨oQ,km⟩:=bZa (fW.put (z+17) (.cells [sl (z+7) dn,sl (z+15) dc] (.t tyU2)));have uy:fW.get (z+18)=none:=by rw[fp,cq (by omega)];exact rL 18 (by decide) (by decide)
 have Qb:fW.get (z+17)=some (.cells [.slice none 0 0,.slice none 0 0] (.t tyU2)):=by rw[fp];exact dX
 have x9:=λo=>jh (lo:=pm.lo) (ok:=pm.ok) (o:=o) (b:=z+17) (by have:=g2.lo;omega);have ayV:jW<z:=by omega
 have lb:∀j k,∀x∈rI (z+j) k,z<=x:=λj k x az=>by rw[JE az];omega
 have jR:∀x∈[jW],x<z:=λx az=>by rw[DZ.1 az];omega
 have Qc:∀x∈[z+17],z<=x:=λx az=>by rw[DZ.1 az];omega
 rw[<-bl]at Qa JL;have d1:=λj k=>(zX jR (lb j k)).2;have d2:=λj k=>(zX JL (lb j k)).2;have d3:=(zX jR Qc).2;have d4:=(zX Qa Qc).2;have d5:=(zX JL Qc).2;have d6:=(YV (n:=dn) (show z+7≠z+17 by omega)).2;have d7:=(YV (n:=dc) (show z+15≠z+17 by omega)).2;have d8:=zX (a:=rI (z+7) dn) (b:=rI (z+15) dc) (n:=z+8) (λx az=>by rw[JE az];omega) (λx az=>by rw[JE az];omega);have f1:∀b∈gM,b<z∨z+19<=b:=λb ai=>.inl (Qa b ai);have f2:∀b∈eW,b<z∨z+19<=b:=λb ai=>.inl (JL b ai);simp[d1,d2,d3,d4,d5,d6,d7,ayV,ez,dt,mS,FA,P9,m1,cy,dd,oP,ayT,m2,dy,iZ,rL,oO,oN,setCells,c5,Perm.make,Perm.pick,ptr,<-fp,uy,Qb,x9,<-km,dx,dm,-hV,-JM];refine⟨⟨λx az=>.inl (.inl (f1 x az)),λx az=>.inl (.inl (f1 x az)),λx az=>.inl (.inl (f2 x az)),λx az=>.inl (.inl (f2 x az))⟩,?_⟩;have ayW:fW.next=z+19:=by rw[fp];exact ayS
 have ayX:K pm aJ fW:=by rw[fp];exact bp.fill Y9 (by omega) (rL 17 (by decide) (by decide)) (by omega) _
 have JN:K pm aJ oQ:=by rw[km];exact bp.put ayX (by omega) Qb (by simp) _
 have aGq:oQ.next=z+19:=by rw[km];exact ayW
 have q:CI H bJ (z+17) (z+7) (z+15):=⟨by omega,by omega,by omega,by omega⟩;obtain⟨ac,rM⟩:∃f:Nat->eu,∀j,j<lp.aj.length->lp.aj[j]? = some (f j):=⟨λj=>lp.aj.getD j ⟨[],[],[],[],false⟩,λj aH=>by simp[aH]⟩;obtain⟨ar,py⟩:∃f:Nat->di,∀j,j<lp.rows.length->lp.rows[j]? = some (f j):=⟨λj=>lp.rows.getD j ⟨[],0,[],[],[]⟩,λj aH=>by simp[aH]⟩;obtain⟨v0,iy⟩:∃v0:Nat->Value,∀j,j<dc->(cX cc (j*5) 5=some ((ar j).cells (v0 j))/\hO H (v0 j) (ar j).cM.length 2 λi cs=>∃c,(ar j).cM[i]? = some c/\cs=c.cells):=by
  have:∀j,∃v,j<dc->(cX cc (j*5) 5=some ((ar j).cells v)/\hO H v (ar j).cM.length 2 λi cs=>∃c,(ar j).cM[i]? = some c/\cs=c.cells):=λj=>by
   by_cases aH:j<dc
   ·obtain⟨cs,ao,r,vc,e2,rfl,bd⟩:=(P' (by omega)).2 j aH;rw[py j (by omega)]at e2;cases e2;exact⟨vc,λ_=>⟨ao,bd⟩⟩
   ·exact⟨.bool true,λh=>absurd h aH⟩
  exact⟨λj=>(this j).choose,λj=>(this j).choose_spec⟩
 have iQ:iR pm H oQ bJ (z+17) (z+7) (z+15) dn dc (λj=>(ac j).cells) (λj=>(ar j).cells (v0 j)):=by
  refine⟨K.trans h8 JN,JN.some g2 ayQ,by rw[km];exact dX,λh=>⟨lc,?_,jk.of (JK h).1 λj aH=>?_⟩,λh=>⟨cc,?_,jk.of (P' h).1 λj aH=>(iy j aH).1⟩⟩
  ·rw[km,cq (by omega),fp,cq (by omega),fg,JD (by omega),fc];exact PW h
  ·obtain⟨cs,ao,c,e2,rfl⟩:=(JK h).2 j aH;rw[rM j (by omega)]at e2;cases e2;exact ao
  ·rw[km,cq (by omega),fp,cq (by omega),fg];exact PW h
 have aGr:=JN.aL;have aGs:K pm H oQ:=K.trans h8 JN;clear fc fg fp km nk mY cy dd dy iZ oP rL uy Qb d1 d2 d3 d4 d5 d6 d7 d8 f1 f2 mS FA lb;obtain⟨iS,uz,_⟩:=uA (z+7) dn;obtain⟨aGt,Y',_⟩:=uA (z+15) dc;have sc:=iQ.x;rw[uz,Y']at sc;simp[sc,-Qd,-Qe]
 refine gG (σ:=Nat->Value) dc (λ_ _=>[(2,.pointer (some ⟨bJ,0,none⟩)),(3,.pointer (some ⟨z+17,0,none⟩))])
  (λi vcs H'=>iR pm H H' bJ (z+17) (z+7) (z+15) dn dc (λj=>(ac j).cells) (λj=>if j<i then(ar j).cut.cells (vcs j) else(ar j).cells (v0 j))/\∀j,j<i->nX H' (vcs j) (ar j).cut.cM/\np (z+16) (vcs j))
  v0 (by decide) (by omega) (by simp) ⟨by simpa using iQ,λj aH=>absurd aH (od _)⟩ (by simp) ?_ ?_
 ·rintro i vcs qJ hi ⟨qK,Qf⟩;refine ayG al g q qK (by omega) hi (r:=ar i) (vc:=v0 i) (by simp) (iy i hi).2 ?_;intro l' sM rJ Qg rK Fh e8 aK;have aGu:=qK.k.aL.lt qK.x;refine⟨λj=>if j=i then rJ else vcs j,Qg,?_,λj aH=>?_⟩
  ·have e:(λj=>if j=i then(ar i).cut.cells rJ else if j<i then(ar j).cut.cells (vcs j) else(ar j).cells (v0 j))=(λj=>if j<i+1 then(ar j).cut.cells (if j=i then rJ else vcs j) else(ar j).cells (v0 j)):=by
    funext j;by_cases e:j=i
    ·subst e;simp
    ·by_cases e2:j<i
     ·simp[e,e2,show j<i+1 by omega]
     ·simp[e,e2,show ¬j<i+1 by omega]
   rw[<-e];exact rK
  ·by_cases e:j=i
   ·subst e;simp only[if_true];exact⟨Fh,e8.mono (by omega)⟩
   ·simp only[e,if_false];obtain⟨U,aa⟩:=Qf j (by omega);exact⟨zWa.ne U aa (by omega) aK,aa⟩
 ·rintro vcs qJ ⟨qK,Qf⟩;have Za:=qK.x;rw[uz,Y']at Za;simp[Za,-Qh,-Qi]
  refine gG (σ:=Unit) dn (λ_ _=>[(2,.pointer (some ⟨bJ,0,none⟩)),(3,.pointer (some ⟨z+17,0,none⟩))])
   (λi _ H'=>iR pm H H' bJ (z+17) (z+7) (z+15) dn dc (λj=>if j<i then(ac j).cut.cells else(ac j).cells) (λj=>if j<dc then(ar j).cut.cells (vcs j) else(ar j).cells (v0 j))/\∀j,j<dc->nX H' (vcs j) (ar j).cut.cM/\np (z+16) (vcs j))
   () (by decide) (by omega) (by simp) ⟨by simpa using qK,Qf⟩ (by simp) ?_ ?_
  ·rintro i _ sM hi ⟨rK,zZ⟩;refine ayL al g q rK (by omega) hi (c:=ac i) (by simp) ?_;intro l' CD Qg ayY aK;refine⟨(),Qg,?_,λj aH=>?_⟩
   ·have e:(λj=>if j=i then(ac i).cut.cells else if j<i then(ac j).cut.cells else(ac j).cells)=(λj=>if j<i+1 then(ac j).cut.cells else(ac j).cells):=by
     funext j;by_cases e:j=i
     ·subst e;simp
     ·by_cases e2:j<i
      ·simp[e,e2,show j<i+1 by omega]
      ·simp[e,e2,show ¬j<i+1 by omega]
    rw[<-e];exact ayY
   ·obtain⟨U,aa⟩:=zZ j aH;exact⟨zWa.ne U aa (by omega) aK,aa⟩
  ·rintro _ sM ⟨rK,zZ⟩;have ayZ:=rK.x;have Zb:=rK.r;have JC:=rK.k.aL;have oN:∀b i,fG (sl b i)=true:=λb i=>by unfold sl;split<;>rfl
   have oO:∀b i,(sl b i).cells=#[sl b i]:=λb i=>by unfold sl;split<;>rfl
   have rH:pm.may bJ=true:=g.may (by omega);obtain⟨CD,CM⟩:=bZa (sM.put bJ (.cells [sl (z+7) dn,sl (z+15) dc] (.t tyU1)));simp[ayZ,Zb,cX,c5,oN,setCells,rH,<-CM];refine bU _ _ _ ?_;have ay0:=bZC CM;have CE:K pm H CD:=by rw[CM];exact bp.put rK.k (by omega) Zb (by simp) _
   simp[ik,ay0,cX,c5];refine⟨CE,?_⟩;have d':lp.cut.aj.length=dn:=by simp[bD.cut];omega
   have ld:lp.cut.rows.length=dc:=by simp[bD.cut];omega
   have ay1:0<dn->∃L,CD.get (z+7)=some (.cells L (.n 5))/\jk L 5 dn (λj=>if j<dn then(ac j).cut.cells else(ac j).cells):=λh=>(rK.c h).imp λL h=>⟨by rw[CM,cq (by omega)];exact h.1,h.2⟩;have z1:0<dc->∃L,CD.get (z+15)=some (.cells L (.n 5))/\jk L 5 dc (λj=>if j<dc then(ar j).cut.cells (vcs j) else(ar j).cells (v0 j)):=λh=>(rK.w h).imp λL h=>⟨by rw[CM,cq (by omega)];exact h.1,h.2⟩;refine⟨_,_,rfl,?_,?_,np.sl (by omega),np.sl (by omega)⟩
   ·unfold kI;rw[d'];refine jk.Y6 ay1 λi hi=>⟨(ac i).cut,?_,by simp[hi]⟩;simp[bD.cut,show i<6 by omega,rM i (by omega)]
   ·unfold uv;rw[ld];refine jk.Y6 z1 λi hi=>⟨(ar i).cut,vcs i,?_,by simp[hi],?_,(zZ i hi).2.mono (by omega)⟩
    ·simp[bD.cut,show i<6 by omega,py i (by omega)]
    ·exact zWa.ne (zZ i hi).1 (zZ i hi).2 (b:=bJ) (by omega) λc y af h=>by rw[CM,cq af];exact h
def bZn(H:ah)(ba:Nat)(v:Value)(k w:Nat)(P:Nat->List Value->Prop):Prop:=
 ∃base cap,v=.slice base k cap/\(base=none->k=0)/\∀a,base=some a->∃b off y row,a=⟨b,off,none⟩/\ba<=b/\H.get b=some y/\rowOf y=some row/\off+k*w<=row.length/\∀i,i<k->∃cs,cX row (off+i*w) w=some cs/\P i cs
theorem bZn.sl{ba k w:Nat}{v:Value}{P:Nat->List Value->Prop}(h:bZn H ba v k w P):zWa H v k w P:=by
 obtain⟨base,cap,rfl,aD,U⟩:=h;refine⟨base,cap,rfl,λi hi=>?_⟩
 cases base with
 | none=>have:=aD rfl;omega
 | some a=>
   obtain⟨b,off,y,row,rfl,_,aa,aq,_,a8⟩:=U _ rfl;obtain⟨cs,cg,dj⟩:=a8 i hi;exact⟨b,off,y,row,cs,rfl,aa,aq,cg,dj⟩
theorem bZn.imp{ba k w:Nat}{v:Value}{P sA:Nat->List Value->Prop}(h:bZn H ba v k w P)(e:Ext H H')(aC:∀i cs,i<k->P i cs->sA i cs):bZn H' ba v k w sA:=by
 obtain⟨base,cap,rfl,aD,U⟩:=h;refine⟨base,cap,rfl,aD,λa aN=>?_⟩;obtain⟨b,off,y,row,ao,e2,bd,b1,cK,il⟩:=U a aN;exact⟨b,off,y,row,ao,e2,e _ _ bd,b1,cK,λi hi=>(il i hi).imp λcs q=>⟨q.1,aC i cs hi q.2⟩⟩
theorem bZn.cVY{ba k w:Nat}{v:Value}{P sA:Nat->List Value->Prop}(h:bZn H ba v k w P)(e:∀b y,ba<=b->H.get b=some y->H'.get b=some y)(aC:∀i cs,i<k->P i cs->sA i cs):bZn H' ba v k w sA:=by
 obtain⟨base,cap,rfl,aD,U⟩:=h;refine⟨base,cap,rfl,aD,λa aN=>?_⟩;obtain⟨b,off,y,row,ao,e2,bd,b1,cK,il⟩:=U a aN;exact⟨b,off,y,row,ao,e2,e _ _ e2 bd,b1,cK,λi hi=>(il i hi).imp λcs q=>⟨q.1,aC i cs hi q.2⟩⟩
theorem bZn.mono{ba n1 k w:Nat}{v:Value}{P sA:Nat->List Value->Prop}(h:bZn H ba v k w P)(aF:n1<=ba)(aC:∀i cs,i<k->P i cs->sA i cs):bZn H n1 v k w sA:=by
 obtain⟨base,cap,rfl,aD,U⟩:=h;refine⟨base,cap,rfl,aD,λa aN=>?_⟩;obtain⟨b,off,y,row,ao,e2,bd,b1,cK,il⟩:=U a aN;exact⟨b,off,y,row,ao,bH aF e2,bd,b1,cK,λi hi=>(il i hi).imp λcs q=>⟨q.1,aC i cs hi q.2⟩⟩
theorem bZn.put{ba k w b:Nat}{v:Value}{P sA:Nat->List Value->Prop}(h:bZn H ba v k w P)(ai:b<ba)(x:cj)(aC:∀i cs,i<k->P i cs->sA i cs):bZn (H.put b x) ba v k w sA:=by
 obtain⟨base,cap,rfl,aD,U⟩:=h;refine⟨base,cap,rfl,aD,λa aN=>?_⟩;obtain⟨c,off,y,row,ao,e2,bd,b1,cK,il⟩:=U a aN;exact⟨c,off,y,row,ao,e2,by rw[cq (by omega)];exact bd,b1,cK,λi hi=>(il i hi).imp λcs q=>⟨q.1,aC i cs hi q.2⟩⟩
theorem bZn.bQi{ba k w:Nat}{v:Value}{P:Nat->List Value->Prop}(h:zWa H v k w P)(bc:np ba v):bZn H ba v k w P:=by
 obtain⟨base,cap,rfl,eU⟩:=h.ex;refine⟨base,cap,rfl,λe=>?_,λa e=>?_⟩
 ·subst e;apply oa;intro hm;obtain⟨_,_,_,_,_,e,_⟩:=eU 0 (by omega);cases e
 ·subst e;have U:ba<=a.block:=bc.1;have aa:0<k:=bc.2;obtain⟨b,off,y,row,cs,ao,e2,bd,b1,_⟩:=eU (k-1) (by omega);cases ao;refine⟨b,off,y,row,rfl,U,e2,bd,?_,λi hi=>?_⟩
  ·have:=(Fy b1).1;have e:(k-1)*w+w=k*w:=by
    rw[<-bZW];congr 1;omega
   omega
  ·obtain⟨b',aAr,mi,dYn,gg,cYk,g2,g3,g4,g5⟩:=eU i hi;cases cYk;rw[e2]at g2;cases g2;rw[bd]at g3;cases g3;exact⟨gg,g4,g5⟩
def bZt(H:ah)(lo hi:Nat)(v:Value)(k w:Nat)(f:Nat->List Value):Prop:=
 v=.slice none 0 0/\k=0∨∃b L,lo<=b/\b<hi/\v=.slice (some ⟨b,0,none⟩) k k/\H.get b=some (.cells L (.n w))/\jk L w k f
theorem bZt.form{lo hi k w:Nat}{v:Value}{f:Nat->List Value}(h:bZt H lo hi v k w f):∃base,v=.slice base k k:=by
 rcases h with⟨rfl,rfl⟩ | ⟨b,L,_,_,rfl,_⟩
 ·exact⟨_,rfl⟩
 ·exact⟨_,rfl⟩
theorem bZt.one{lo hi k w:Nat}{v:Value}{f:Nat->List Value}(h:bZt H lo hi v k w f):fG v=true/\v.cells=#[v]:=by
 obtain⟨base,rfl⟩:=h.form;exact⟨rfl,rfl⟩
theorem bZt.pos{lo hi k w:Nat}{v:Value}{f:Nat->List Value}(h:bZt H lo hi v k w f)(ag:0<k):∃b L,lo<=b/\b<hi/\v=.slice (some ⟨b,0,none⟩) k k/\H.get b=some (.cells L (.n w))/\jk L w k f:=by
 rcases h with⟨_,rfl⟩ | h
 ·omega
 ·exact h
theorem bZt.ext{lo hi k w:Nat}{v:Value}{f:Nat->List Value}(h:bZt H lo hi v k w f)(e:Ext H H'):bZt H' lo hi v k w f:=
 h.imp id λ⟨b,L,U,aa,aq,a8,cg⟩=>⟨b,L,U,aa,aq,e _ _ a8,cg⟩
theorem bZt.mono{lo hi lo' hi' k w:Nat}{v:Value}{f:Nat->List Value}(h:bZt H lo hi v k w f)(U:lo'<=lo)(aa:hi<=hi'):bZt H lo' hi' v k w f:=
 h.imp id λ⟨b,L,cx,a2,a3⟩=>⟨b,L,bH U cx,hR a2 aa,a3⟩
theorem bZt.put{lo hi k w c:Nat}{v:Value}{f:Nat->List Value}(h:bZt H lo hi v k w f)(af:c<lo∨hi<=c)(x:cj):bZt (H.put c x) lo hi v k w f:=
 h.imp id λ⟨b,L,U,aa,aq,a8,cg⟩=>⟨b,L,U,aa,aq,by rw[cq (by omega)];exact a8,cg⟩
theorem bZt.e{lo hi k w:Nat}{v:Value}{f:Nat->List Value}{P:Nat->List Value->Prop}(h:bZt H lo hi v k w f)(zt:∀i,i<k->P i (f i)):bZn H lo v k w P:=by
 rcases h with⟨rfl,rfl⟩ | ⟨b,L,U,aa,rfl,a8,cg⟩
 ·exact⟨none,0,rfl,λ_=>rfl,λa h=>(by cases h)⟩
 ·refine⟨_,_,rfl,λh=>(by cases h),λa h=>?_⟩;cases h;exact⟨b,0,_,L,rfl,U,a8,rfl,by rw[cg.1];omega,λi hi=>⟨f i,by rw[Nat.zero_add];exact cg.row hi,zt i hi⟩⟩
theorem bZt.congr{lo hi k w:Nat}{v:Value}{f f':Nat->List Value}(h:bZt H lo hi v k w f)(bc:∀j,j<k->f' j=f j):bZt H lo hi v k w f':=
 h.imp id λ⟨b,L,U,aa,aq,a8,cg⟩=>⟨b,L,U,aa,aq,a8,cg.1,λj aH=>by rw[bc j aH];exact cg.2 j aH⟩
def bUe(w by':Nat):b2:=⟨8,(.seq (.aT [o 2 (.aM (.c (.slice none 0 0)))]) (.seq (.seq (.aT [m 3 0,o 4 (.bin .eql (.nil .jN) (.t 3) (.c (.slice none 0 0)))]) (.cond (.t 4) (.seq (.aT [o 2 (.aM (.c (.slice none 0 0)))]) .ret) .skip)) (.seq (.aT [o 5 (.buildSlice [] w 0 []),m 6 0,o 7 (.append w by' (.t 5) (.t 6)),m 2 7]) .ret))),[.slot 2]⟩
theorem bVr{X' w by':Nat}(al:Has X X' (bUe w by'))(g:cl pm H){v:Value}{k ba:Nat}{P:Nat->List Value->Prop}(aw:bZn H ba v k w P)(hw:1<=w)(ag:k<=1000)(hK:by'<=200)(zt:∀i cs,P i cs->cs.all fG=true):
 Call X pm X' [v] H λr H'=>K pm H H'/\∃f,bZt H' H.next H'.next r k w f/\∀i,i<k->P i (f i):=by
 refine Call.has al rfl ?_;obtain⟨base,cap,rfl,aD,U⟩:=aw
 cases base with
 | none=>
   obtain rfl:k=0:=aD rfl;simp[bUe];exact⟨K.refl g,λ_=>[],.inl ⟨rfl,rfl⟩⟩
 | some a=>
   obtain⟨b,off,y,row,rfl,_,aa,aq,a8,cg⟩:=U _ rfl;have av:=K.new g (.cells [] (.n w));have g1:=av.aL;have h4:(H.new (.cells [] (.n w))).get H.next=some (.cells [] (.n w)):=dT;have gN:=av.some g aa;have rH:pm.may H.next=true:=g.may (bR _);by_cases e:k=0
   ·subst e;have x7:cX row off (0*w)=some []:=by rw[CG (by omega)];simp
    simp[bUe,g.make,g.pick,fill,gN,aq,iV]at x7|-;simp[x7];exact⟨av,λ_=>[],.inr ⟨_,[],bR _,bXg _,rfl,h4,by simp,λj aH=>absurd aH (od _)⟩⟩
   ·obtain⟨l,ao,e2,bd⟩:=ayx (n:=k) (row:=row) (off:=off) (w:=w) (by omega) (λi hi=>(cg i hi).imp λ_ h=>h.1);have aO:∀i,i<k->∃cs,cX l (i*w) w=some cs/\P i cs:=λi hi=>by
     obtain⟨cs,bn,bh⟩:=cg i hi;exact⟨cs,by rw[bd i hi,bn],bh⟩
    obtain⟨f,qw,bc⟩:=jk.ex e2 aO;have mc:l.all fG=true:=by
     rw[hz];intro v aw;obtain⟨p,aC,rfl⟩:=bVp aw;have ri:p<k*w:=by omega
     have aV:p/w<k:=bXO (by rw[gw];exact ri);have Ei:=hz.1 (zt _ _ (bc _ aV));have ayE:p%w<w:=bYT _ (by omega);have mm:=(qw.2 _ aV).2 _ ayE;have e:p/w*w+p%w=p:=by rw[gw];exact bWN p w
     rw[e,hG aC]at mm;exact Ei _ (fR mm.symm)
    have vu:k*by'<=17179869184:=bH (ie ag hK) (by decide);have fm:K pm H (((H.new (.cells [] (.n w))).put H.next .dead).new (.cells l (.n w))):=bp.new (bp.put av (bR _) h4 (by simp) _) (bXu _) _;have avS:cX [] 0 0=some []:=rfl;simp[bUe,g.make,g.pick,fill,gN,aq,ao,iV,e,vu,hw,h4,rH,mc,avS,show k<=17179869184 by omega];exact⟨fm,f,.inr ⟨_,l,bXu _,bXg _,rfl,dT,qw⟩,bc⟩
end Go.Dam.C
namespace Go.Dam.C
open Go Go.Dam
variable{X:aY}{pm:Perm}{H H' cL H0:ah}{n:Nat}
structure bUf(X:aY):Prop extends bWo X where
 bYJ:Has X F.bYJ C.bYJ
 bXU:Has X F.bXU C.bXU
 bXV:Has X F.bXV C.bXV
 bXw:Has X F.bXw C.bXw
abbrev bYK:Nat:=T.cVZ
abbrev bQj:Nat:=T.cUa
def bXW(l:List fb)(i:Nat)(cs:List Value):Prop:=∃c,l[i]? = some c/\cs=c.cells
def bYg(l:List eu)(i:Nat)(cs:List Value):Prop:=∃c,l[i]? = some c/\cs=c.cells
def cUb(H:ah)(ba:Nat)(l:List di)(i:Nat)(cs:List Value):Prop:=∃r vc,l[i]? = some r/\cs=r.cells vc/\bZn H ba vc r.cM.length 2 (bXW r.cM)
def bYA(H:ah)(ba:Nat)(v:Value)(l:List di):Prop:=bZn H ba v l.length 5 (cUb H ba l)
def bZE(H:ah)(ba:Nat)(v:Value)(lp:bD):Prop:=∃v1 v2,v=.agg #[v1,v2]/\bZn H ba v1 lp.aj.length 5 (bYg lp.aj)/\bYA H ba v2 lp.rows
theorem bYA.ext{ba:Nat}{v:Value}{l:List di}(h:bYA H ba v l)(e:Ext H H'):bYA H' ba v l:=bZn.imp h e λ_ _ _ ⟨r,vc,ao,e2,bd⟩=>⟨r,vc,ao,e2,bd.imp e λ_ _ _ h=>h⟩
theorem bYA.mono{ba n1:Nat}{v:Value}{l:List di}(h:bYA H ba v l)(aF:n1<=ba):bYA H n1 v l:=bZn.mono h aF λ_ _ _ ⟨r,vc,ao,e2,bd⟩=>⟨r,vc,ao,e2,bd.mono aF λ_ _ _ h=>h⟩
theorem bYA.put{ba b:Nat}{v:Value}{l:List di}(h:bYA H ba v l)(ai:b<ba)(x:cj):bYA (H.put b x) ba v l:=bZn.put h ai x λ_ _ _ ⟨r,vc,ao,e2,bd⟩=>⟨r,vc,ao,e2,bd.put ai x λ_ _ _ h=>h⟩
theorem bYA.rows{ba:Nat}{v:Value}{l:List di}(h:bYA H ba v l):nY H v l:=zWa.imp (bZn.sl h) (λ_ _ e=>e) λ_ _ _ ⟨r,vc,ao,e2,bd⟩=>⟨r,vc,ao,e2,bd.sl⟩
theorem bZE.ext{ba:Nat}{v:Value}{lp:bD}(h:bZE H ba v lp)(e:Ext H H'):bZE H' ba v lp:=by
 obtain⟨v1,v2,rfl,U,aa⟩:=h;exact⟨v1,v2,rfl,U.imp e λ_ _ _ h=>h,aa.ext e⟩
theorem bZE.mono{ba n1:Nat}{v:Value}{lp:bD}(h:bZE H ba v lp)(aF:n1<=ba):bZE H n1 v lp:=by
 obtain⟨v1,v2,rfl,U,aa⟩:=h;exact⟨v1,v2,rfl,U.mono aF λ_ _ _ h=>h,aa.mono aF⟩
theorem bZE.put{ba b:Nat}{v:Value}{lp:bD}(h:bZE H ba v lp)(ai:b<ba)(x:cj):bZE (H.put b x) ba v lp:=by
 obtain⟨v1,v2,rfl,U,aa⟩:=h;exact⟨v1,v2,rfl,U.put ai x λ_ _ _ h=>h,aa.put ai x⟩
theorem bZE.lp{ba:Nat}{v:Value}{lp:bD}(h:bZE H ba v lp):ps H v lp:=by
 obtain⟨v1,v2,rfl,U,aa⟩:=h;exact⟨v1,v2,rfl,U.sl,aa.rows⟩
theorem sL.e{ba:Nat}{v:Value}{lp:bD}(h:sL H ba v lp):bZE H ba v lp:=by
 obtain⟨v1,v2,rfl,U,aa,aq,a8⟩:=h;exact⟨v1,v2,rfl,.bQi U aq,bZn.mono (.bQi aa a8) (bR _) λ_ _ _ ⟨r,vc,ao,e2,bd,b1⟩=>⟨r,vc,ao,e2,.bQi bd b1⟩⟩
def bVs(H:ah)(ba:Nat)(r:Value)(lp:bD):Prop:=∃(fQ fm:Value) (n1 n2:Nat) (vb:Nat->Value),r=.agg #[fQ,fm]/\ba<=n1/\n1<=n2/\bZt H ba n1 fQ lp.aj.length 5 (λj=>(lp.col j).cells)/\bZt H n1 n2 fm lp.rows.length 5 (λj=>(lp.row j).cells (vb j))/\∀j,j<lp.rows.length->bZn H n2 (vb j) (lp.row j).cM.length 2 (bXW (lp.row j).cM)
theorem bVs.old{ba:Nat}{r:Value}{lp:bD}(h:bVs H ba r lp):∃fQ fm n1,r=.agg #[fQ,fm]/\ba<=n1/\bZt H ba n1 fQ lp.aj.length 5 (λj=>(lp.col j).cells)/\bYA H n1 fm lp.rows:=by
 obtain⟨fQ,fm,n1,n2,vb,rfl,aD,cUc,U,aa,aq⟩:=h;exact⟨fQ,fm,n1,rfl,aD,U,aa.e λj aH=>⟨_,_,bD.rowAt aH,rfl,(aq j aH).mono cUc λ_ _ _ h=>h⟩⟩
theorem bVs.e{ba:Nat}{r:Value}{lp:bD}(h:bVs H ba r lp):bZE H ba r lp:=by
 obtain⟨fQ,fm,n1,rfl,aD,U,aa⟩:=h.old;exact⟨fQ,fm,rfl,U.e λi hi=>⟨_,bD.Cn hi,rfl⟩,aa.mono aD⟩
structure bYV(pm:Perm)(H0 H:ah)(bG cO ba n1 n2:Nat)(fQ fm:Value)(lp:bD)(eW:Nat->List Value):Prop where
 k:K pm H0 H
 r:H.get bG=some (.cells [.slice none 0 0,.slice none 0 0] (.t bYK))
 x:H.get cO=some (.cells [fQ,fm] (.t bYK))
 c:bZt H ba n1 fQ lp.aj.length 5 λj=>(lp.col j).cells
 w:bZt H n1 n2 fm lp.rows.length 5 eW
 eF:n2<=H.next
structure bQk(H0:ah)(bG cO ba n1 n2:Nat):Prop where
 U:H0.next<=bG
 aa:bG<cO
 aq:cO<ba
 a8:ba<=n1
 cg:n1<=n2
variable{bG cO ba n1 n2:Nat}{fQ fm:Value}{lp:bD}{eW:Nat->List Value}
theorem bYV.up(s:bYV pm H0 H bG cO ba n1 n2 fQ fm lp eW)(u:K pm H H'):bYV pm H0 H' bG cO ba n1 n2 fQ fm lp eW where
 k:=K.trans s.k u
 r:=u.some s.k.aL s.r
 x:=u.some s.k.aL s.x
 c:=s.c.ext (u.ext s.k.aL)
 w:=s.w.ext (u.ext s.k.aL)
 eF:=bH s.eF u.next
theorem bYV.row(s:bYV pm H0 H bG cO ba n1 n2 fQ fm lp eW)(o:bQk H0 bG cO ba n1 n2){PY:Nat->List Value}{i k br:Nat}{v:Value}(hi:i<lp.rows.length)(ag:k<5)(bc:PY i=(eW i).set k v)(aF:∀j,j<lp.rows.length->j≠i->PY j=eW j){L:List Value}(hu:fm=.slice (some ⟨br,0,none⟩) lp.rows.length lp.rows.length)(bC:H.get br=some (.cells L (.n 5))):
 bYV pm H0 (H.put br (.cells (L.set (i*5+k) v) (.n 5))) bG cO ba n1 n2 fQ fm lp PY:=by
 obtain⟨b,L',cR,b9,e,U,aa⟩:=s.w.pos (by omega);rw[hu]at e;cases e;rw[bC]at U;cases U;have aGd:=o.U;have HH:=o.aa;have Oe:=o.aq;have cUd:=o.a8;exact⟨bp.put s.k (by omega) bC (by simp) _,by rw[cq (by omega)];exact s.r,by rw[cq (by omega)];exact s.x,s.c.put (.inr cR) _,.inr ⟨br,_,cR,b9,hu,dX,aa.set hi ag v bc aF⟩,s.eF⟩
theorem cUe(al:bUf X)(g0:cl pm H0)(Z7:bQk H0 bG cO ba n1 n2)(s:bYV pm H0 H bG cO ba n1 n2 fQ fm lp eW){i m0:Nat}(hi:i<lp.rows.length){r:di}{vc:Value}(an:eW i=r.cells vc)
 (nd:bZn H0 m0 vc r.cM.length 2 (bXW r.cM)) (hlen:r.cM.length<=1000) {R:c'}
 (dD:∀l' H' rJ,Sub [(16,.int .i64 (i:Int)),(15,.int .i64 (lp.rows.length:Int)),(2,.pointer (some ⟨bG,0,none⟩)),(3,.pointer (some ⟨cO,0,none⟩)),(14,fm)] l'->bYV pm H0 H' bG cO ba n1 n2 fQ fm lp (λj=>if j=i then r.cells rJ else eW j)->
  bZn H' n2 rJ r.cM.length 2 (bXW r.cM)->(∀b y,n2<=b->H.get b=some y->H'.get b=some y)->R .normal l' H'):
 wp X pm (.code (.seq (.aT [m 18 16,o 19 (.ho 5 (.t 14) (.t 16)),o 20 (.load true 5 (.t 19)),o 5 (.alloc bQj [(.string ⟨#[]⟩),(.int .i64 (.ofNat 0)),(.slice none 0 0),(.string ⟨#[]⟩),(.string ⟨#[]⟩)]),m 4 18,⟨none,none,.store 5 (.t 5) (.t 20)⟩]) C.bQl)) [(17,.bool true),(16,.int .i64 (i:Int)),(15,.int .i64 (lp.rows.length:Int)),(2,.pointer (some ⟨bG,0,none⟩)),(3,.pointer (some ⟨cO,0,none⟩)),(14,fm)] H [] R:=by
 have g:=s.k.aL;have aGd:=Z7.U;have HH:=Z7.aa;have Oe:=Z7.aq;have cUd:=Z7.a8;have dYo:=Z7.cg;have eT:=g.lt s.x;have eF:=s.eF;obtain⟨br,L,cR,b9,hu,bC,mV⟩:=s.w.pos (by omega);have cK:cX L (i*5) 5=some [aW r.name,.int .i64 r.kind,vc,aW r.rhs,aW r.Ff]:=by rw[mV.row hi,an];rfl
 obtain⟨base,cap,e,_⟩:=id nd;subst e;obtain⟨q,aV⟩:=bZa (H.next);obtain⟨H1,cw⟩:=bZa ((H.new (.cells [.string ⟨#[]⟩,.int .i64 0,.slice none 0 0,.string ⟨#[]⟩,.string ⟨#[]⟩] (.t bQj))).put q (.cells [aW r.name,.int .i64 r.kind,.slice base r.cM.length cap,aW r.rhs,aW r.Ff] (.t bQj)));have av:=bYz g cw aV;have g1:=av.aL;have lK:=bZC cw;have qp:=bYI aV;have bQm:pm.may q=true:=g.may (by omega);have dYp:=bVt cw aV;have kR:=av.some g s.x;have FD:=av.some g bC;obtain⟨z,bl⟩:=bZa (H1.next);have bE:K pm H1 (H1.up 9):=(K.refl g1).up 9;have mS:=λj=>(by rw[bl];exact g1.none j:(H1.up 9).get (z+j)=none);have FA:=(by rw[bl];exact g1.fo:(H1.up 9).get z=none);rw[hu]at kR;simp[hu,bC,hi,cK,g.pick,g.make,ptr,c5,<-aV,qp,bQm,setCells,<-cw];refine eg.of g1.lo rfl ?_;rw[<-bl];simp[dt,mS,FA,kR,lK];refine bZx bE.aL (vs:=[.slice base r.cM.length cap]) (by simp[mS]) (λpm' bS=>bVr (w:=2) (by':=24) al.bXV bS (nd.imp ((K.trans s.k (K.trans av bE)).ext g0) λ_ _ _ h=>h) (by decide) hlen (by decide) (λi cs ⟨c,_,e⟩=>by rw[e];rfl)) ?_;rintro rJ aJ aI ⟨f,qw,bc⟩;have g2:=aI.aL;have e0:K pm H1 aJ:=K.trans bE aI;have dW:=e0.some g1 kR;have kz:=e0.some g1 FD;have ot:=aI.res g1;obtain⟨aGh,e⟩:=qw.form;subst e;have iS:setCells L (i*5+2) [.slice aGh r.cM.length r.cM.length]=some (L.set (i*5+2) (.slice aGh r.cM.length r.cM.length)):=setCells_one (mV.lt hi (show 2<5 by decide));obtain⟨bN,iO⟩:=bZa (aJ.put br (.cells (L.set (i*5+2) (.slice aGh r.cM.length r.cM.length)) (.n 5)));have ya:=λq=>jh (lo:=pm.lo) (ok:=pm.ok) (o:=q) (b:=br) (by have:=g0.lo;omega);have iM:br<z:=by omega
 have bUa:cO<z:=by omega
 have cUf:q<z:=by omega
 rw[<-bl]at ot;simp[ot,hi,iS,kz,ya,<-iO,dx,dm,eJ,ez,gI,iM,bUa,cUf];have s2:bYV pm H0 bN bG cO ba n1 n2 fQ fm lp (λj=>if j=i then r.cells (.slice aGh r.cM.length r.cM.length) else eW j):=by
  rw[iO];exact(s.up (K.trans av e0)).row Z7 hi (by decide) (by simp[an,di.cells]) (λj _ h=>by simp[h]) hu kz
 refine dD _ _ _ (by simp[hu]) s2 ?_ λb y ai h=>?_
 ·have aq:bZt bN (H1.up 9).next aJ.next (.slice aGh r.cM.length r.cM.length) r.cM.length 2 f:=by
   rw[iO];exact qw.put (.inl (by show br<H1.next+9;omega)) _
  exact(aq.e bc).mono (by show n2<=H1.next+9;omega) λ_ _ _ h=>h
 ·rw[iO,cq (by omega)];exact(K.trans av e0).some g h
theorem cUg(al:bUf X)(g:cl pm H){v:Value}{lp:bD}{ba:Nat}(aw:bZE H ba v lp)(af:lp.aj.length<=1000)(an:lp.rows.length<=1000)(Fh:∀i,i<lp.rows.length->(lp.row i).cM.length<=1000):
 Call X pm F.bXw [v] H λr H'=>K pm H H'/\bVs H' H.next r lp:=by
 refine Call.h6 al.bXw rfl λQ bU=>?_;obtain⟨v1,v2,rfl,U,aa⟩:=aw;obtain⟨bWQ,bWR,ao,_⟩:=id U;obtain⟨dG,dE,e2,_⟩:=id aa;subst ao e2;obtain⟨bJ,zq3⟩:=bZa (H.next);obtain⟨H1,cw⟩:=bZa (H.new (.cells [.slice bWQ lp.aj.length bWR,.slice dG lp.rows.length dE] (.t bYK)));have av:=bZv g cw;have g1:=av.aL;have h4:=bZQ cw zq3;obtain⟨bG,lk⟩:=bZa (H1.next);obtain⟨aJ,ee⟩:=bZa (H1.new (.cells [.slice none 0 0,.slice none 0 0] (.t bYK)));have aI:=bZv g1 ee;have g2:=aI.aL;have RI:=bZQ ee lk;have ayQ:=aI.some g1 h4;have h8:=av.trans aI;have n1:=bV cw zq3;have n2:=bV ee lk;obtain⟨z,bl⟩:=bZa (aJ.next);have bE:K pm aJ (aJ.up 9):=(K.refl g2).up 9;have mS:=λj=>(by rw[bl];exact g2.none j:(aJ.up 9).get (z+j)=none);have FA:=(by rw[bl];exact g2.fo:(aJ.up 9).get z=none);obtain⟨fL,fc⟩:=bZa ((aJ.up 9).put (z+4) (.cells [.slice none 0 0,.slice none 0 0] (.t bYK)));have hD:K pm aJ fL:=by rw[fc];exact bp.fill bE (by omega) (mS 4) (by show z+4<aJ.next+9;omega) _
 have TG:fL.next=z+9:=by rw[fc,bl];rfl
 have oP:∀j,j≠4->fL.get (z+j)=none:=λj aH=>by rw[fc,cq (by omega)];exact mS j
 have YY:fL.get (z+4)=some (.cells [.slice none 0 0,.slice none 0 0] (.t bYK)):=by rw[fc];exact dX
 have zV:=hD.aL;have ayT:=hD.some g2 ayQ;simp[g.pick,g.make,ptr,<-zq3,<-cw,<-lk,<-ee,-bWS];refine eg.of g2.lo rfl ?_;rw[<-bl];simp[dt,mS,FA,ayQ,Perm.make,Perm.pick,ptr,<-fc,-bWS];refine bZx zV (vs:=[.slice bWQ lp.aj.length bWR]) (by simp[oP]) (λpm' bS=>bVr (w:=5) (by':=72) al.bYJ bS (U.imp ((h8.trans hD).ext g) λ_ _ _ h=>h) (by decide) af (by decide) (λi cs ⟨c,_,e⟩=>by rw[e];rfl)) ?_;rintro fQ bN aQ ⟨f1,cy,sn⟩;have g3:=aQ.aL;have jH:=K.trans h8 (K.trans hD aQ);have YI:=aQ.next;have uy:∀j,j<9->j≠4->bN.get (z+j)=none:=λj aH j8=>(aQ.get _ (by omega)).trans (oP j j8);simp[-bWS];refine bZx g3 (vs:=[.slice dG lp.rows.length dE]) (by simp[uy]) (λpm' bS=>bVr (w:=5) (by':=80) al.bXU bS (aa.imp (jH.ext g) λ_ _ _ h=>h) (by decide) an (by decide) (λi cs ⟨r,vc,_,e,base,cap,bd,_⟩=>by rw[e,bd];rfl)) ?_;rintro fm cp bt ⟨f2,dd,Py⟩;have g4:=bt.aL;have ji:=K.trans aQ bt;have jY:=K.trans jH bt;have aGm:=bt.next;have DH:∀j,j<9->j≠4->cp.get (z+j)=none:=λj aH j8=>(bt.get _ (by omega)).trans (uy j aH j8);have cYv:=ji.some zV YY;obtain⟨cR,e⟩:=cy.form;subst e;obtain⟨b9,e⟩:=dd.form;subst e;have dYq:z+4<cp.next:=by omega
 have x9:=λo=>jh (lo:=pm.lo) (ok:=pm.ok) (o:=o) (b:=z+4) (by have:=g2.lo;omega);obtain⟨fV,fg⟩:=bZa (cp.put (z+4) (.cells [.slice cR lp.aj.length lp.aj.length,.slice b9 lp.rows.length lp.rows.length] (.t bYK)));have bUg:bJ<z:=by omega
 have bWp:gp [z+4] [bJ]=true:=kS (by omega);simp[DH,cYv,setCells,c5,x9,<-fg,bWp,dx,dm,eJ,ez,gI,bUg,-bWS];have sK:∀j,j<lp.rows.length->∃v,f2 j=(lp.row j).cells v/\bZn H ba v (lp.row j).cM.length 2 (bXW (lp.row j).cM):=λj aH=>by
  obtain⟨r,vc,ao,e2,bd⟩:=Py j aH;rw[bD.rowAt aH]at ao;cases ao;exact⟨vc,e2,bd⟩
 obtain⟨v0,iy⟩:∃v0:Nat->Value,∀j,j<lp.rows.length->f2 j=(lp.row j).cells (v0 j)/\bZn H ba (v0 j) (lp.row j).cM.length 2 (bXW (lp.row j).cM):=by
  have:∀j,∃v,j<lp.rows.length->f2 j=(lp.row j).cells v/\bZn H ba v (lp.row j).cM.length 2 (bXW (lp.row j).cM):=λj=>by
   by_cases aH:j<lp.rows.length
   ·obtain⟨v,q⟩:=sK j aH;exact⟨v,λ_=>q⟩
   ·exact⟨.bool true,λh=>absurd h aH⟩
  exact⟨λj=>(this j).choose,λj=>(this j).choose_spec⟩
 have o:bQk H bG (z+4) fL.next bN.next cp.next:=⟨by omega,by omega,by omega,YI,aGm⟩;have iQ:bYV pm H fV bG (z+4) fL.next bN.next cp.next (.slice cR lp.aj.length lp.aj.length) (.slice b9 lp.rows.length lp.rows.length) lp (λj=>(lp.row j).cells (v0 j)):=by
  rw[fg];refine⟨bp.put jY (by omega) cYv (by simp) _,?_,dX,?_,?_,bR _⟩
  ·rw[cq (by omega)];exact(K.trans hD ji).some g2 RI
  ·refine((cy.ext (bt.ext g3)).congr λj aH=>?_).put (.inl (by omega)) _;obtain⟨c,ao,e2⟩:=sn j aH;rw[bD.Cn aH]at ao;cases ao;exact e2.symm
  ·exact(dd.congr λj aH=>(iy j aH).1.symm).put (.inl (by omega)) _
 have sc:=iQ.x;simp[sc,-bQn,-bQo]
 refine gG (σ:=Nat->Value) lp.rows.length (λ_ _=>[(2,.pointer (some ⟨bG,0,none⟩)),(3,.pointer (some ⟨z+4,0,none⟩)),(14,.slice b9 lp.rows.length lp.rows.length)])
  (λi vb H'=>bYV pm H H' bG (z+4) fL.next bN.next cp.next (.slice cR lp.aj.length lp.aj.length) (.slice b9 lp.rows.length lp.rows.length) lp (λj=>(lp.row j).cells (if j<i then vb j else v0 j))/\
   ∀j,j<i->bZn H' cp.next (vb j) (lp.row j).cM.length 2 (bXW (lp.row j).cM))
  (λ_=>.bool true) (by decide) (by omega) (by simp) ⟨by simpa using iQ,λj aH=>absurd aH (od _)⟩ (by simp) ?_ ?_
 ·rintro i vb qJ hi ⟨qK,Qf⟩;refine cUe al g o qK hi (r:=lp.row i) (vc:=v0 i) (m0:=ba) (by simp) (iy i hi).2 (Fh i hi) ?_;intro l' sM rJ Qg rK dp aK;refine⟨λj=>if j=i then rJ else vb j,Qg,?_,λj aH=>?_⟩
  ·have e:(λj=>if j=i then(lp.row i).cells rJ else(lp.row j).cells (if j<i then vb j else v0 j))=(λj=>(lp.row j).cells (if j<i+1 then(if j=i then rJ else vb j) else v0 j)):=by
    funext j;by_cases e:j=i
    ·subst e;simp
    ·by_cases e2:j<i
     ·simp[e,e2,show j<i+1 by omega]
     ·simp[e,e2,show ¬j<i+1 by omega]
   rw[<-e];exact rK
  ·by_cases e:j=i
   ·subst e;simpa using dp
   ·simp only[e,if_false];exact(Qf j (by omega)).cVY aK λ_ _ _ h=>h
 ·rintro vb sM ⟨rK,zZ⟩;have ayZ:=rK.x;have Zb:=rK.r;have oj:pm.may bG=true:=g.may (by omega);obtain⟨CD,CM⟩:=bZa (sM.put bG (.cells [.slice cR lp.aj.length lp.aj.length,.slice b9 lp.rows.length lp.rows.length] (.t bYK)));simp[ayZ,Zb,cX,c5,setCells,oj,<-CM];refine bU _ _ _ ?_;have ay0:=bZC CM;have CE:K pm H CD:=by rw[CM];exact bp.put rK.k (by omega) Zb (by simp) _
  simp[ik,ay0,cX,c5];have aGd:=o.U;have HH:=o.aa;have Oe:=o.aq;refine⟨CE,_,_,bN.next,cp.next,vb,rfl,by omega,aGm,?_,?_,λj aH=>?_⟩
  ·have:=(rK.c.put (c:=bG) (.inl (by omega)) (.cells [.slice cR lp.aj.length lp.aj.length,.slice b9 lp.rows.length lp.rows.length] (.t bYK))).mono (lo':=H.next) (hi':=bN.next) (by omega) (bR _);rw[<-CM]at this;exact this
  ·have cg:=(rK.w.put (c:=bG) (.inl (by omega)) (.cells [.slice cR lp.aj.length lp.aj.length,.slice b9 lp.rows.length lp.rows.length] (.t bYK)));rw[<-CM]at cg;exact cg.congr λj aH=>by simp[aH]
  ·have dj:=((zZ j aH).put (b:=bG) (by omega) (.cells [.slice cR lp.aj.length lp.aj.length,.slice b9 lp.rows.length lp.rows.length] (.t bYK)) λ_ _ _ h=>h);rw[<-CM]at dj;exact dj
end Go.Dam.C
namespace Go.Dam.C
open Go Go.Dam
variable{X:aY}{pm:Perm}{H H' cL H0:ah}{n:Nat}
structure bQp(X:aY):Prop extends bUf X where
 bXx:Has X F.bXx C.bXx
abbrev bXy:Nat:=T.cUh
abbrev bUh:Nat:=T.cUi
abbrev cUj:Value:=.agg #[.int .i64 0,.string ⟨#[]⟩,.slice none 0 0,.slice none 0 0,.slice none 0 0]
def bXj(H:ah)(p ba:Nat)(lp:bD):Prop:=∃fQ fm,H.get p=some (.cells [fQ,fm] (.t bUh))/\bZE H ba (.agg #[fQ,fm]) lp
theorem bXj.ext{p ba:Nat}{lp:bD}(h:bXj H p ba lp)(e:Ext H H'):bXj H' p ba lp:=by
 obtain⟨fQ,fm,U,aa⟩:=h;exact⟨fQ,fm,e _ _ U,aa.ext e⟩
theorem bXj.mono{p ba n1:Nat}{lp:bD}(h:bXj H p ba lp)(e:n1<=ba):bXj H p n1 lp:=by
 obtain⟨fQ,fm,U,aa⟩:=h;exact⟨fQ,fm,U,aa.mono e⟩
theorem bXj.put{p c ba:Nat}{lp:bD}(h:bXj H p ba lp)(af:c<ba)(aC:c≠p)(x:cj):bXj (H.put c x) p ba lp:=by
 obtain⟨fQ,fm,U,aa⟩:=h;exact⟨fQ,fm,by rw[cq (Ne.symm aC)];exact U,aa.put (by omega) x⟩
structure bYB(pm:Perm)(p:Nat)(H H':ah):Prop where
 aL:cl pm H'
 next:H.next<=H'.next
 get:∀b,b<H.next->b≠p->H'.get b=H.get b
 eE:∀b o,H.get b=some (.eE o)->H'.get b=some (.eE o)
theorem bYB.trans{p:Nat}(k:bYB pm p H H')(l:bYB pm p H' cL):bYB pm p H cL:=⟨l.aL,bH k.next l.next,λb ai aF=>(l.get b (hR ai k.next) aF).trans (k.get b ai aF),λb o h=>l.eE b o (k.eE b o h)⟩
theorem bYB.put{p:Nat}{cs:List Value}{z:dI}(g:cl pm H)(aK:H.get p=some (.cells cs z))(x:cj):bYB pm p H (H.put p x):=by
 have u:=bp.put (n:=p) (.refl g) (bR _) aK (by simp) x;exact⟨u.aL,u.next,λb _ aF=>cq aF,u.eE⟩
theorem bYB.some{p b:Nat}{y:cj}(k:bYB pm p H H')(g:cl pm H)(aF:b≠p)(h:H.get b=some y):H'.get b=some y:=(k.get b (g.lt h) aF).trans h
theorem bYB.up{p:Nat}(k:bYB pm p H H')(aF:n<=p)(rj:n<=H.next):bp pm n H H':=⟨k.aL,k.next,λb ai=>k.get b (by omega) (by omega),k.eE⟩
theorem bYB.fin{p c:Nat}{cs:List Value}{z:dI}(k:bYB pm p H H')(af:H.next<=c)(aK:H'.get c=Option.some (.cells cs z))(x:cj):bYB pm p H (H'.put c x):=by
 have u:=bp.put (n:=0) (.refl k.aL) (Nat.zero_le _) aK (by simp) x;exact⟨u.aL,bH k.next u.next,λb ai aF=>by rw[cq (by omega)];exact k.get b ai aF,λb o h=>u.eE b o (k.eE b o h)⟩
theorem cUk(al:bQp X)(g:cl pm H){v:Value}{lp:bD}{ba:Nat}(aw:bZE H ba v lp)(wu:iA lp)(Fh:∀i,i<lp.rows.length->(lp.row i).cM.length<=1000):
 Call X pm F.bXx [v] H λr H'=>K pm H H'/\(lp.dP=false/\r=.tuple #[.pointer none,cUj,.bool false]∨lp.dP=true/\∃p a u,r=.tuple #[.pointer (some ⟨p,0,none⟩),u,.bool true]/\H.next<=p/\bXj H' p (p+1) lp/\bYo H' H.next u a/\bZJ lp a):=by
 refine Call.h6 al.bXx rfl λQ bU=>?_;have iy:=aw;obtain⟨v1,v2,rfl,U,aa⟩:=aw;obtain⟨bWQ,bWR,ao,_⟩:=id U;obtain⟨dG,dE,e2,_⟩:=id aa;subst ao e2;obtain⟨bJ,zq3⟩:=bZa (H.next);obtain⟨H1,cw⟩:=bZa (H.new (.cells [.slice bWQ lp.aj.length bWR,.slice dG lp.rows.length dE] (.t bYK)));have av:=bZv g cw;have g1:=av.aL;have h4:=bZQ cw zq3;obtain⟨cO,Cu⟩:=bZa (H1.next);obtain⟨aJ,ee⟩:=bZa (H1.new (.cells [.int .i64 0,.string ⟨#[]⟩,.slice none 0 0,.slice none 0 0,.slice none 0 0] (.t bXy)));have aI:=bZv g1 ee;have g2:=aI.aL;have cUl:=bZQ ee Cu;have ayQ:=aI.some g1 h4;have h8:=av.trans aI;have n1:=bV cw zq3;have n2:=bV ee Cu;have ata:pm.may cO=true:=g.may (by omega);simp[g.pick,g.make,ptr,<-zq3,<-cw,<-Cu,<-ee,ayQ,cX,c5,-bQq,-bQr];refine aR.bZb (vs:=[.agg #[.slice bWQ lp.aj.length bWR,.slice dG lp.rows.length dE]]) (cYw al.tohj g2 wu.ok (iy.lp.ext (h8.ext g)) (λhm=>bQs wu hm)) ?_;rintro dh bN ⟨aQ,aq⟩;have g3:=aQ.aL;have jH:=h8.trans aQ;have cYx:=aQ.some g2 cUl;have Pt:=aQ.some g2 ayQ;have YI:=aQ.next;obtain⟨aIO,Rf⟩:=bZa (bN.next);have cYy:pm.may aIO=true:=g3.may (by omega);have abi:=bYI Rf
 rcases aq with⟨hm,rfl⟩ | ⟨hm,a,u,rfl,hu,aG⟩
 ·obtain⟨cp,nZ⟩:=bZa ((bN.new (.cells [.int .i64 0,.string ⟨#[]⟩,.slice none 0 0,.slice none 0 0,.slice none 0 0] (.t bXy))).put aIO (.cells [.int .i64 0,.string ⟨#[]⟩,.slice none 0 0,.slice none 0 0,.slice none 0 0] (.t bXy)));have bt:=bYz g3 nZ Rf;have bUi:=bt.some g3 cYx;obtain⟨cV,r5⟩:=bZa (cp.put cO (.cells [.int .i64 0,.string ⟨#[]⟩,.slice none 0 0,.slice none 0 0,.slice none 0 0] (.t bXy)));have cd:K pm H cV:=by rw[r5];exact bp.put (K.trans jH bt) (by omega) bUi (by simp) _
  have qH:=bZC r5;simp[g3.pick,g3.make,ptr,c5,<-Rf,abi,cYy,setCells,<-nZ,bUi,ata,<-r5,fill,-bQt];refine bU _ _ _ ?_;simp[ik,qH,cX,c5,hm];exact cd
 ·obtain⟨df,dW,gZ,rfl,kR,jw,jP⟩:=hu;obtain⟨PI,PJ,ao,_⟩:=kR.1.ex;obtain⟨PK,PL,e2,_⟩:=jw.1.ex;obtain⟨PM,PN,bd,_⟩:=jP.1.ex;subst ao e2 bd;have hu:bYo bN aJ.next (.agg #[.int .i64 a.st,aW a.val,.slice PI a.x.length PJ,.slice PK a.d.length PL,.slice PM a.r.length PN]) a:=⟨_,_,_,rfl,kR,jw,jP⟩;obtain⟨cp,nZ⟩:=bZa ((bN.new (.cells [.int .i64 0,.string ⟨#[]⟩,.slice none 0 0,.slice none 0 0,.slice none 0 0] (.t bXy))).put aIO (.cells [.int .i64 a.st,aW a.val,.slice PI a.x.length PJ,.slice PK a.d.length PL,.slice PM a.r.length PN] (.t bXy)));have bt:=bYz g3 nZ Rf;have g4:=bt.aL;have NC:=bVt nZ Rf;have cUm:=bZC nZ;have bUi:=bt.some g3 cYx;have bUj:=bt.some g3 Pt;have jY:=K.trans jH bt;obtain⟨z,bl⟩:=bZa (cp.next);have bE:K pm cp (cp.up 8):=(K.refl g4).up 8;have mS:=λj=>(by rw[bl];exact g4.none j:(cp.up 8).get (z+j)=none);have FA:=(by rw[bl];exact g4.fo:(cp.up 8).get z=none);simp[g3.pick,g3.make,ptr,c5,<-Rf,abi,cYy,setCells,<-nZ];refine eg.of g4.lo rfl ?_;rw[<-bl];simp[dt,mS,FA,bUj,cUm,cX,c5];refine bZx bE.aL (vs:=[.agg #[.slice bWQ lp.aj.length bWR,.slice dG lp.rows.length dE]]) (by simp[mS]) (λpm' bS=>cUg al.tobUf bS (iy.ext ((K.trans jY bE).ext g)) (by have:=wu.n;omega) (by have:=wu.m;omega) Fh) ?_;rintro vN cV cd bQu;have g5:=cd.aL;have ki:=K.trans bE cd;have ot:=cd.res g4;rw[<-bl]at ot;have aGn:(cp.up 8).next=z+8:=by rw[bl];rfl
  rw[aGn]at bQu;obtain⟨fQ,fm,yS,rfl,kA,cy,dd⟩:=bQu.old;obtain⟨cR,e⟩:=cy.form;subst e;obtain⟨b9,OA,e,_⟩:=id dd;subst e;have cUn:=cd.next;obtain⟨ep,mA⟩:=bZa (cV.put (z+4) (.cells [.slice cR lp.aj.length lp.aj.length,.slice b9 lp.rows.length OA] (.t bUh)));have cv:K pm cp ep:=by rw[mA];exact bp.fill ki (by omega) (ot 4 (by decide)) (by omega) _
  have g6:=cv.aL;have cYz:=cv.some g4 bUi;have bWT:ep.get (z+4)=some (.cells [.slice cR lp.aj.length lp.aj.length,.slice b9 lp.rows.length OA] (.t bUh)):=by rw[mA];exact dX
  have bUk:∀j,j<8->j≠4->ep.get (z+j)=none:=λj aH j8=>by rw[mA,cq (by omega)];exact ot j aH
  obtain⟨hM,TM⟩:=bZa (ep.put cO (.cells [.int .i64 a.st,aW a.val,.slice PI a.x.length PJ,.slice PK a.d.length PL,.slice PM a.r.length PN] (.t bXy)));have ck:bJ<z:=by omega
  have eT:cO<z:=by omega
  have lf:aIO<z:=by omega
  have x9:=λo=>jh (lo:=pm.lo) (ok:=pm.ok) (o:=o) (b:=cO) (by have:=g.lo;omega);have bWp:gp [z+4] [aIO]=true:=kS (by omega);simp[ot,fill,setCells,c5,Perm.make,Perm.pick,ptr,<-mA,bUk,cYz,x9,<-TM,bWp,dx,dm,eJ,ez,gI,ck,eT,lf];refine⟨by rw[TM,cq (by omega)];exact bUk 7 (by decide) (by decide),?_⟩;have dJ:K pm H hM:=by rw[TM];exact bp.put (K.trans jY cv) (by omega) cYz (by simp) _
  have cUo:=bZC TM;refine bU _ _ _ ?_;simp[ik,cUo,cX,c5,hm];refine⟨dJ,z+4,a,_,⟨rfl,rfl⟩,by omega,⟨_,_,by rw[TM,cq (by omega)];exact bWT,?_⟩,?_,aG⟩
  ·have h:=(((bQu.e).put (b:=z+4) (by omega) (.cells [.slice cR lp.aj.length lp.aj.length,.slice b9 lp.rows.length OA] (.t bUh))).put (b:=cO) (by omega) (.cells [.int .i64 a.st,aW a.val,.slice PI a.x.length PJ,.slice PK a.d.length PL,.slice PM a.r.length PN] (.t bXy))).mono (n1:=z+4+1) (by omega);rw[<-mA,<-TM]at h;exact h
  ·have h:=((hu.ext ((K.trans bt cv).ext g3)).put (c:=cO) (by omega) (.cells [.int .i64 a.st,aW a.val,.slice PI a.x.length PJ,.slice PK a.d.length PL,.slice PM a.r.length PN] (.t bXy))).mono (n1:=H.next) (by omega);rw[<-TM]at h;exact h
structure bYH(X:aY):Prop extends bQp X where
 bYW:Has X F.bYW C.bYW
 bXA:Has X F.bXA C.bXA
 bYX:Has X F.bYX C.bYX
 bXB:Has X F.bXB C.bXB
 bXk:Has X F.bXk C.bXk
 bXC:Has X F.bXC C.bXC
 bXD:Has X F.bXD C.bXD
 bXE:Has X F.bXE C.bXE
 bXF:Has X F.bXF C.bXF
 bYU:Has X F.bYU C.bYU
 bXG:Has X F.bXG C.bXG
 bYY:Has X F.bYY C.bYY
def bZP(H:ah)(A:Nat->Prop)(v:Value)(k w:Nat)(P:Nat->List Value->Prop):Prop:=
 ∃base cap,v=.slice base k cap/\(base=none->k=0)/\∀a,base=some a->∃b off y row,a=⟨b,off,none⟩/\A b/\H.get b=some y/\rowOf y=some row/\off+k*w<=row.length/\∀i,i<k->∃cs,cX row (off+i*w) w=some cs/\P i cs
theorem bZn.p{ba k w:Nat}{v:Value}{P:Nat->List Value->Prop}(h:bZn H ba v k w P):bZP H (λb=>ba<=b) v k w P:=h
theorem bZP.e{A:Nat->Prop}{k w:Nat}{v:Value}{P:Nat->List Value->Prop}(h:bZP H A v k w P):bZn H 0 v k w P:=by
 obtain⟨base,cap,e,aD,U⟩:=h;exact⟨base,cap,e,aD,λa aN=>(U a aN).imp λb h=>h.imp λoff h=>h.imp λy h=>h.imp λrow h=>⟨h.1,Nat.zero_le _,h.2.2⟩⟩
theorem bZP.imp{A A':Nat->Prop}{k w:Nat}{v:Value}{P sA:Nat->List Value->Prop}(h:bZP H A v k w P)(e:∀b y,A b->H.get b=some y->A' b/\H'.get b=some y)(aC:∀i cs,i<k->P i cs->sA i cs):bZP H' A' v k w sA:=by
 obtain⟨base,cap,cY,aD,U⟩:=h;refine⟨base,cap,cY,aD,λa aN=>?_⟩;obtain⟨b,off,y,row,ao,e2,bd,b1,cK,il⟩:=U a aN;obtain⟨bn,bh⟩:=e b y e2 bd;exact⟨b,off,y,row,ao,bn,bh,b1,cK,λi hi=>(il i hi).imp λcs q=>⟨q.1,aC i cs hi q.2⟩⟩
def bZX(H:ah)(A:Nat->Prop)(v:Value)(l:List (List UInt8)):Prop:=kh H v l/\∀b off m cap,v=.slice (some ⟨b,off,none⟩) m cap->A b/\∃y,H.get b=some y
theorem bZM.p{ba:Nat}{v:Value}{l:List (List UInt8)}(h:bZM H ba v l):bZX H (λb=>ba<=b) v l:=h
theorem bZX.imp{A A':Nat->Prop}{v:Value}{l:List (List UInt8)}(h:bZX H A v l)(e:∀b y,A b->H.get b=some y->A' b/\H'.get b=some y):bZX H' A' v l:=by
 refine⟨?_,λb o m c q=>?_⟩
 ·obtain⟨base,cap,rfl,aa⟩:=h.1.ex;refine⟨base,cap,rfl,λi hi=>?_⟩;obtain⟨b,off,y,row,u,rfl,e2,bd⟩:=aa i hi;exact⟨b,off,y,row,u,rfl,(e _ _ (h.2 b off _ _ rfl).1 e2).2,bd⟩
 ·obtain⟨a,y,bu⟩:=h.2 b o m c q;exact⟨(e b y a bu).1,y,(e b y a bu).2⟩
theorem bZX.form{A:Nat->Prop}{v:Value}{l:List (List UInt8)}(h:bZX H A v l):∃base cap,v=.slice base l.length cap:=by
 obtain⟨base,cap,e,_⟩:=h.1.ex;exact⟨base,cap,e⟩
abbrev bZU:Nat:=T.cUx
abbrev bXH:Nat:=T.cUy
def bZR.cells(x:bZR)(dv:Value):List Value:=[.int .i64 x.col,aW x.at',.int .i64 x.l,.int .i64 x.r,dv]
def bZr(p bt br b:Nat):Prop:=b≠p/\b≠bt/\b≠br
def bYM(p bt br b:Nat):Prop:=p<b/\b≠bt/\b≠br
theorem bYM.f{p bt br b:Nat}(h:bYM p bt br b):bZr p bt br b:=⟨by have:=h.1;omega,h.2⟩
def bYZ(H:ah)(A:Nat->Prop)(bt ct:Nat)(v:Value)(l:List (Nat×List eu)):Prop:=
 v=.slice none 0 0/\l=[]/\ct=0∨v=.slice (some ⟨bt,0,none⟩) l.length ct/\l.length<=ct/\∃L,H.get bt=some (.cells L (.n 2))/\L.length=ct*2/\
  ∀i (hi:i<l.length),L[i*2]? = some (.int .i64 (l[i].1:Int))/\∃bZk,L[i*2+1]? = some bZk/\bZP H A bZk l[i].2.length 5 (bYg l[i].2)
def bZD(H:ah)(A:Nat->Prop)(br:Nat)(v:Value)(l:List bZR):Prop:=
 v=.slice none 0 0/\l=[]∨v=.slice (some ⟨br,0,none⟩) l.length l.length/\∃L,H.get br=some (.cells L (.n 5))/\∃f,jk L 5 l.length f/\∀i (hi:i<l.length),∃dv,f i=l[i].cells dv/\bZX H A dv l[i].d
structure bZA(H:ah)(p:Nat)(cy dd:Value)(deep:Bool)(bZi:Nat)(s:bZe)(bt br ct:Nat):Prop where
 ge:p<=bt/\p<=br
 bXl:(∃y,H.get bt=some y)/\∃y,H.get br=some y
 ex:∃b3 vj BW bZI,H.get p=some (.cells [cy,dd,.bool deep,.int .i64 (bZi:Int),b3,vj,.int .i64 s.bZh.st,aW s.bZh.val,BW,.slice none 0 0,.slice none 0 0,bZI] (.t bZU))/\
  bYZ H (bZr p bt br) bt ct b3 s.todo/\bZD H (bYM p bt br) br vj s.tree/\bZX H (bYM p bt br) BW s.bZh.x/\ia H bZI s.val
theorem bZP.form{A:Nat->Prop}{k w:Nat}{v:Value}{P:Nat->List Value->Prop}(h:bZP H A v k w P):∃base cap,v=.slice base k cap:=by
 obtain⟨base,cap,e,_⟩:=h;exact⟨base,cap,e⟩
theorem bYZ.imp{A A':Nat->Prop}{bt ct:Nat}{v:Value}{l:List (Nat×List eu)}(h:bYZ H A bt ct v l)(e:∀b y,A b->H.get b=some y->A' b/\H'.get b=some y)(e2:∀L,H.get bt=some (.cells L (.n 2))->H'.get bt=some (.cells L (.n 2))):bYZ H' A' bt ct v l:=by
 rcases h with h | ⟨U,aa,L,aq,a8,cg⟩
 ·exact .inl h
 ·exact .inr ⟨U,aa,L,e2 _ aq,a8,λi hi=>⟨(cg i hi).1,(cg i hi).2.imp λbZk q=>⟨q.1,q.2.imp e λ_ _ _ h=>h⟩⟩⟩
theorem bZD.imp{A A':Nat->Prop}{br:Nat}{v:Value}{l:List bZR}(h:bZD H A br v l)(e:∀b y,A b->H.get b=some y->A' b/\H'.get b=some y)(e2:∀L,H.get br=some (.cells L (.n 5))->H'.get br=some (.cells L (.n 5))):bZD H' A' br v l:=by
 rcases h with h | ⟨U,L,aq,f,a8,cg⟩
 ·exact .inl h
 ·exact .inr ⟨U,L,e2 _ aq,f,a8,λi hi=>(cg i hi).imp λdv q=>⟨q.1,q.2.imp e⟩⟩
theorem cYJ{l:List (Nat×List eu)}{k:Nat}{cs:List eu}{i:Nat}(hi:i<(l++[(k,cs)]).length):(i<l.length/\∃h:i<l.length,(l++[(k,cs)])[i]=l[i])∨(i=l.length/\(l++[(k,cs)])[i]=(k,cs)):=by
 by_cases h:i<l.length
 ·exact .inl ⟨h,h,List.getElem_append_left h⟩
 ·have:i=l.length:=by simp at hi;omega
  subst this;exact .inr ⟨rfl,by simp⟩
theorem bYZ.app{A:Nat->Prop}{bt ct zb lo k:Nat}{okl:List Nat}{b3 bZk:Value}{l:List (Nat×List eu)}{cs:List eu}(h:bYZ H A bt ct b3 l)(nd:∀b,A b->b≠bt/\b≠zb)(dr:bt≠zb)(hm:Perm.may ⟨lo,okl,some zb⟩ bt=true)(aO:l.length<1000000)(af:bZP H A bZk cs.length 5 (bYg cs))(bl:H.get zb=none):
 ∃bXZ bZp bXa H' F M,(iV 2 32 b3 [.int .i64 (k:Int),bZk] 1).runT ⟨lo,okl,some zb⟩ H=some (bXZ,H',F,M)/\bYZ H' A bZp bXa bXZ (l++[(k,cs)])/\(bZp=bt∨bZp=zb)/\(∀b,b≠bt->b≠zb->H'.get b=H.get b)/\(∀b y,b≠zb->H.get b=some y->(∀L,y≠.cells L (.n 2))->H'.get b=some y)/\H'.next=H.next/\(∀x∈F,x=bt)/\(∀{n:Nat} {H0:ah} {pm:Perm},bp pm n H0 H->n<=bt->n<=zb->zb<H.next->bp pm n H0 H')/\fG bXZ=true/\bXZ.cells=#[bXZ]:=by
 obtain⟨cb,cp,bQC⟩:=af.form;have U:fG bZk=true:=by rw[bQC];rfl
 have ai:(l.length+1)*32<=17179869184:=by omega
 have old:∀{H':ah} {bZk:Value} {cs:List eu},(∀b,b≠bt->b≠zb->H'.get b=H.get b)->bZP H A bZk cs.length 5 (bYg cs)->bZP H' A bZk cs.length 5 (bYg cs):=λc9 h=>h.imp (λb y q e=>⟨q,by rw[c9 b (nd b q).1 (nd b q).2];exact e⟩) λ_ _ _ h=>h
 rcases h with⟨rfl,rfl,rfl⟩ | ⟨rfl,aa,L,aq,a8,cg⟩
 ·refine⟨.slice (some ⟨zb,0,none⟩) 1 1,zb,1,H.put zb (.cells [.int .i64 (k:Int),bZk] (.n 2)),[],[zb],?_,?_,.inr rfl,λb _ ai=>cq ai,λb y ai e _=>by rw[cq ai];exact e,rfl,by simp,λu _ aF aO=>bp.fill u aF bl aO _,rfl,rfl⟩
  ·unfold iV;simp[Perm.make,Perm.pick,U]
  ·refine .inr ⟨rfl,bR _,_,dX,rfl,λi hi=>?_⟩;obtain rfl:i=0:=by simp at hi;omega
   exact⟨rfl,bZk,rfl,old (λb _ ai=>cq ai) af⟩
 ·by_cases an:l.length+1<=ct
  ·have uz:∃L',setCells L (l.length*2) [.int .i64 (k:Int),bZk]=some L':=by
    unfold setCells;rw[dA,bZK (show l.length*2+[Value.int IntKind.i64 (k:Int),bZk].length<=L.length by simp;omega)];exact⟨_,rfl⟩
   obtain⟨L',abV⟩:=uz;obtain⟨bn,bh,cu⟩:=M8 abV;refine⟨.slice (some ⟨bt,0,none⟩) (l.length+1) ct,bt,ct,H.put bt (.cells L' (.n 2)),[bt],[bt],?_,?_,.inl rfl,λb ai _=>cq ai,λb y _ e bu=>by
    have ai:b≠bt:=λe2=>by
     rw[e2,aq]at e;exact bu L (bYd e).symm
    rw[cq ai];exact e,rfl,by simp,λu aF _ _=>bp.put u aF aq (by simp) _,rfl,rfl⟩
   ·unfold iV;simp[an,putRow,aq,U,abV,hm]
   ·refine .inr ⟨by simp,by simpa using an,_,dX,by omega,λi hi=>?_⟩
    rcases cYJ hi with⟨hi,_,e⟩ | ⟨rfl,e⟩
    ·rw[e,cu,aU (by omega),cu,aU (by omega)];exact⟨(cg i hi).1,(cg i hi).2.imp λbZk q=>⟨q.1,old (λb ai _=>cq ai) q.2⟩⟩
    ·rw[e,cu,bm (by simp),cu,bm (by simp)];exact⟨by simp,bZk,by simp,old (λb ai _=>cq ai) af⟩
  ·have cYK:ct=l.length:=by omega
   have x7:cX L 0 (l.length*2)=some L:=by rw[show l.length*2=L.length by omega];exact abR L
   have jy:(H.put bt .dead).get zb=none:=by rw[cq (Ne.symm dr)];exact bl
   have aK:∀b,b≠bt->b≠zb->((H.put bt .dead).put zb (.cells (L++[.int .i64 (k:Int),bZk]) (.n 2))).get b=H.get b:=λb U aa=>by rw[cq aa,cq U]
   refine⟨.slice (some ⟨zb,0,none⟩) (l.length+1) (l.length+1),zb,l.length+1,(H.put bt .dead).put zb (.cells (L++[.int .i64 (k:Int),bZk]) (.n 2)),[bt],[bt,zb],?_,?_,.inr rfl,aK,λb y bl e bu=>by
    have ai:b≠bt:=λe2=>by
     rw[e2,aq]at e;exact bu L (bYd e).symm
    rw[aK b ai bl];exact e,rfl,by simp,λu aF rj aO=>bp.fill (bp.put u aF aq (by simp) .dead) rj jy aO _,rfl,rfl⟩
   ·unfold iV;simp[an,Perm.make,Perm.pick,U,aq,x7,hm,ai,show l.length+1<=17179869184 by omega]
   ·refine .inr ⟨by simp,by simp,_,dX,by simp;omega,λi hi=>?_⟩
    rcases cYJ hi with⟨hi,_,e⟩ | ⟨rfl,e⟩
    ·rw[e,lB (by omega),lB (by omega)];exact⟨(cg i hi).1,(cg i hi).2.imp λbZk q=>⟨q.1,old aK q.2⟩⟩
    ·rw[e,lA (by omega),lA (by omega),show l.length*2-L.length=0 by omega,show l.length*2+1-L.length=1 by omega];exact⟨rfl,bZk,rfl,old aK af⟩
end Go.Dam.C
namespace Go.Dam.C
open Go Go.Dam
variable{X:aY}{pm:Perm}{H H' cL H0:ah}{n:Nat}
theorem jk.app{L xs:List Value}{w n:Nat}{f:Nat->List Value}(h:jk L w n f)(az:xs.length=w):jk (L++xs) w (n+1) λj=>if j=n then xs else f j:=by
 refine⟨by simp[h.1,az,bZW],λj aH=>?_⟩;by_cases e:j=n
 ·subst e;simp only[if_true];refine⟨az,λk ag=>?_⟩;rw[lA (by rw[h.1];omega),h.1];congr 1;omega
 ·simp only[e,if_false];refine⟨(h.2 j (by omega)).1,λk ag=>?_⟩;rw[lB (h.lt (by omega) ag)];exact(h.2 j (by omega)).2 k ag
structure bZq(pm:Perm)(p bt br bZp bZw:Nat)(H H':ah):Prop where
 aL:cl pm H'
 next:H.next<=H'.next
 get:∀b,b<H.next->bZr p bt br b->H'.get b=H.get b
 eE:∀b o,H.get b=some (.eE o)->H'.get b=some (.eE o)
 t:bZp=bt∨H.next<=bZp
 r:bZw=br∨H.next<=bZw
variable{p bt br ct bZp bZw bWU Ps bZi:Nat}{cy dd bZk:Value}{deep:Bool}{s:bZe}{cs:List eu}
theorem bZq.bQD(k:bZq pm p bt br bZp bZw H H'){b:Nat}(ai:b<H.next)(h:bZr p bt br b):bZr p bZp bZw b:=⟨h.1,by have:=k.t;have:=h.2.1;omega,by have:=k.r;have:=h.2.2;omega⟩
theorem bZq.trans(k:bZq pm p bt br bZp bZw H H')(l:bZq pm p bZp bZw bWU Ps H' cL):bZq pm p bt br bWU Ps H cL:=
 ⟨l.aL,bH k.next l.next,λb ai h=>(l.get b (hR ai k.next) (k.bQD ai h)).trans (k.get b ai h),λb o h=>l.eE b o (k.eE b o h),by
  have:=k.t;have:=l.t;have:=k.next;omega,by have:=k.r;have:=l.r;have:=k.next;omega⟩
theorem bZq.bXm(k:K pm H H'):bZq pm p bt br bt br H H':=⟨k.aL,k.next,λb ai _=>k.get b ai,k.eE,.inl rfl,.inl rfl⟩
theorem bZq.some(k:bZq pm p bt br bZp bZw H H')(g:cl pm H){b:Nat}{y:cj}(h:bZr p bt br b)(e:H.get b=Option.some y):H'.get b=Option.some y:=(k.get b (g.lt e) h).trans e
theorem bZq.up(k:bZq pm p bt br bZp bZw H H')(U:p<=bt)(aa:p<=br)(aq:p<H.next):bp pm p H H':=⟨k.aL,k.next,λb ai=>k.get b (by omega) ⟨by omega,by omega,by omega⟩,k.eE⟩
theorem bZq.cYL(k:bZq pm p bt br bZp bZw H H')(g:cl pm H){bY w:Nat}{v:Value}{P sA:Nat->List Value->Prop}(h:bZP H (bZr p bt br) v bY w P)(aC:∀i cs,i<bY->P i cs->sA i cs):bZP H' (bZr p bZp bZw) v bY w sA:=
 h.imp (λ_b _ ai e=>⟨k.bQD (g.lt e) ai,k.some g ai e⟩) aC
theorem bQE(al:bYH X)(g:cl pm H)(ey:pm.lo<=p)(h:bZA H p cy dd deep bZi s bt br ct)(UG:bZP H (bZr p bt br) bZk cs.length 5 (bYg cs))(aF:s.tree.length<=1000)(aS:s.todo.length<=1000):
 Call X pm F.bYX [.pointer (some ⟨p,0,none⟩),bZk] H λr H'=>∃bZp bZw bXa,r=.int .i64 (s.tree.length:Int)/\bZA H' p cy dd deep bZi (s.bZo cs) bZp bZw bXa/\bZq pm p bt br bZp bZw H H':=by
 refine Call.h6 al.bYX rfl λQ bU=>?_;obtain⟨⟨n1,n2⟩,⟨⟨avv,cUz⟩,cYM,aaG⟩,b3,vj,BW,bZI,ai,zq,bZY,vJ,bXI⟩:=h;have lp:=g.lt ai;have cUA:=g.lt cUz;have dYr:=g.lt aaG;obtain⟨ss,o,gs,au,f,qw,bc⟩:∃ss o,wm H vj 5 s.tree.length ss o/\(∀c,o=some c->c=br)/\∃f,jk ss 5 s.tree.length f/\∀i (hi:i<s.tree.length),∃dv,f i=s.tree[i].cells dv/\bZX H (bYM p bt br) dv s.tree[i].d:=by
  rcases bZY with⟨rfl,e⟩ | ⟨rfl,L,U,f,aa,aq⟩
  ·rw[e];exact⟨[],none,⟨rfl,rfl,rfl⟩,by simp,λ_=>[],⟨rfl,λj aH=>absurd aH (od _)⟩,λi hi=>absurd hi (od _)⟩
  ·exact⟨L,some br,⟨rfl,aa.1,U⟩,λc e=>by cases e;rfl,f,aa,aq⟩
 obtain⟨q,aV⟩:=bZa (H.next);obtain⟨H1,cw⟩:=bZa (H.new (.cells [.int .i64 (-1),.string ⟨#[]⟩,.int .i64 0,.int .i64 0,.slice none 0 0] (.n 5)));have av:=bZv g cw;have g1:=av.aL;have aDz:=bV cw aV;have h4:=bZQ cw aV;obtain⟨aJ,cx,a2,a3,a4,a5⟩:=YF g1 (by':=64) (n:=p+1) (gs.ext λc y _ e=>av.some g e) (xs:=[.int .i64 (-1),.string ⟨#[]⟩,.int .i64 0,.int .i64 0,.slice none 0 0]) rfl rfl (by decide) (by omega) (by decide) (by omega) (λc af=>by
  have e:=au c af;have dr:c≠p:=λe2=>by
   rw[af]at gs;have U:=gs.2.2;rw[e2,ai]at U;cases U
  exact⟨by omega,jh (by omega)⟩)
 have g2:=a3.aL;rw[aDz]at cx a2 a4 a5;have gN:=av.some g ai;have yH:aJ.get p=some (.cells [cy,dd,.bool deep,.int .i64 (bZi:Int),b3,vj,.int .i64 s.bZh.st,aW s.bZh.val,BW,.slice none 0 0,.slice none 0 0,bZI] (.t bZU)):=(a3.get p (by omega)).trans gN;obtain⟨dYs,dYt⟩:=bZa (Value.slice (some ⟨q+1,0,none⟩) (s.tree.length+1) (s.tree.length+1));obtain⟨bN,iO⟩:=bZa (aJ.put p (.cells [cy,dd,.bool deep,.int .i64 (bZi:Int),b3,.slice (some ⟨q+1,0,none⟩) (s.tree.length+1) (s.tree.length+1),.int .i64 s.bZh.st,aW s.bZh.val,BW,.slice none 0 0,.slice none 0 0,bZI] (.t bZU)));have fu:bp pm p H1 bN:=by rw[iO];exact bp.put (a3.mono (by omega)) (bR _) yH (by simp) _
 have g3:=fu.aL;have C9:=bZC iO;have aHp:bN.next=q+2:=by rw[iO];exact a4
 have bWv:pm.may p=true:=jh ey;have wn:wr .i64 (s.tree.length:Int)=s.tree.length:=zWc (by omega) (by omega);have cYN:∀b,b<q->b≠p->o≠some b->bN.get b=H.get b:=λb U aa aq=>by
  rw[iO,cq aa,a5 b (by omega) aq,cw,zy (by omega)]
 have bQF:∀b,b<q->bZr p bt br b->bN.get b=H.get b:=λb U aa=>cYN b U aa.1 λe=>aa.2.2 (au b e);obtain⟨z,bl⟩:=bZa (bN.next);obtain⟨fL,fc⟩:=bZa ((bN.up 18).put (z+13) (.cells [.int .i64 (s.tree.length:Int),bZk] (.n 2)));have bE:K pm bN (bN.up 18):=(K.refl g3).up 18;have mS:=λj=>(by rw[bl];exact g3.none j:(bN.up 18).get (z+j)=none);have FA:=(by rw[bl];exact g3.fo:(bN.up 18).get z=none);have hD:K pm bN fL:=by rw[fc];exact bp.fill bE (by omega) (mS 13) (by show z+13<bN.next+18;omega) _
 have bQG:fL.get (z+13)=some (.cells [.int .i64 (s.tree.length:Int),bZk] (.n 2)):=by rw[fc];exact dX
 have oP:∀j,j≠13->fL.get (z+j)=none:=λj aH=>by rw[fc,cq (by omega)];exact mS j
 have TG:fL.next=z+18:=by rw[fc,bl];rfl
 have bVy:∀b,b≠z+13->fL.get b=bN.get b:=λb ai=>by rw[fc,cq ai];rfl
 have cUB:bYZ fL (λb=>b<q/\bZr p bt br b) bt ct b3 s.todo:=by
  refine zq.imp (λb y ai e=>?_) λL e=>?_
  ·have aV:=g.lt e;exact⟨⟨by omega,ai⟩,by rw[bVy b (by omega),bQF b (by omega) ai];exact e⟩
  ·have dr:bt≠p:=λe2=>by rw[e2,ai]at e;cases e
   have tH:o≠some bt:=λe2=>by
    rw[e2]at gs;have U:=gs.2.2;rw[e]at U;cases U
   rw[bVy bt (by omega),cYN bt (by omega) dr tH];exact e
 have cUC:bZP fL (λb=>b<q/\bZr p bt br b) bZk cs.length 5 (bYg cs):=UG.imp (λb y ai e=>by
  have aV:=g.lt e;exact⟨⟨by omega,ai⟩,by rw[bVy b (by omega),bQF b (by omega) ai];exact e⟩) λ_ _ _ h=>h
 obtain⟨bXZ,bZp,bXa,fV,F,M,ao,e2,bd,b1,cUD,cK,il,nM,mh,pe⟩:=cUB.app (zb:=z+14) (lo:=pm.lo) (okl:=pm.ok) (k:=s.tree.length) (λb ai=>⟨by have:=ai.2.2.1;omega,by omega⟩) (by omega) (jh (by omega)) (by omega) cUC (oP 14 (by decide));have ayU:fV.get p=some (.cells [cy,dd,.bool deep,.int .i64 (bZi:Int),b3,.slice (some ⟨q+1,0,none⟩) (s.tree.length+1) (s.tree.length+1),.int .i64 s.bZh.st,aW s.bZh.val,BW,.slice none 0 0,.slice none 0 0,bZI] (.t bZU)):=cUD p _ (by omega) (by rw[bVy p (by omega)];exact C9) (λL h=>by cases h);have rL:∀j,14<j->fV.get (z+j)=none:=λj aH=>by rw[b1 _ (by omega) (by omega)];exact oP j (by omega)
 obtain⟨fW,fp⟩:=bZa (fV.put p (.cells [cy,dd,.bool deep,.int .i64 (bZi:Int),bXZ,.slice (some ⟨q+1,0,none⟩) (s.tree.length+1) (s.tree.length+1),.int .i64 s.bZh.st,aW s.bZh.val,BW,.slice none 0 0,.slice none 0 0,bZI] (.t bZU)));have cYO:=bZC fp;have TF:=λo=>jh (lo:=pm.lo) (ok:=pm.ok) (o:=o) (b:=p) ey;have lI:fG bZk=true/\bZk.cells=#[bZk]:=by
  obtain⟨cb,cp,e⟩:=UG.form;rw[e];exact⟨rfl,rfl⟩
 have bWp:gp [z+13] [p]=true:=kS (by omega);have cUE:p<z:=by omega
 simp[g.pick,g.make,fill,<-aV,<-cw,ai,h4,cX,cx,yH,bWv,setCells,<-iO,-bUp];refine eg.of g3.lo rfl ?_;rw[<-bl];simp[dt,mS,FA,C9,wn,fill,c5,lI,Perm.make,Perm.pick,<-fc,oP,bQG,cX,ao,rL,ayU,TF,mh,pe,setCells,<-fp,bWp,cUE,dx,dm,ez,-bUp];refine⟨λx az=>by have:=il x az;omega,?_⟩;simp[cYO,wn];refine bU _ _ _ ?_;simp;have cUF:bp pm p H bN:=bp.trans (av.mono (by omega)) fu;have cUG:bp pm p H fL:=cUF.k hD (by omega);have cUH:bp pm p H fV:=nM cUG (by omega) (by omega) (by omega);have bUq:bp pm p H fW:=by rw[fp];exact bp.put cUH (bR _) ayU (by simp) _
 have cYP:∀b,b≠p->b≠bt->b<z->fW.get b=bN.get b:=λb U aa aq=>by
  rw[fp,cq U,b1 b aa (by omega),bVy b (by omega)]
 have cz:∀b,b<q->bZr p bt br b->fW.get b=H.get b:=λb U aa=>by
  have aq:=aa.2.1;rw[cYP b aa.1 (by omega) (by omega)];exact bQF b U aa
 have bXn:∀b y,bZr p bt br b->H.get b=some y->bZr p bZp (q+1) b/\fW.get b=some y:=λb y h e=>by
  have aO:=g.lt e;have aq:=h.2.1;exact⟨⟨h.1,by omega,by omega⟩,by rw[cz b (by omega) h];exact e⟩
 have lK:fW.get (q+1)=some (.cells (ss++[.int .i64 (-1),.string ⟨#[]⟩,.int .i64 0,.int .i64 0,.slice none 0 0]) (.n 5)):=by
  rw[cYP (q+1) (by omega) (by omega) (by omega),iO,cq (by omega)];exact a2.2.2
 have cUI:∃y,fW.get bZp=some y:=by
  rcases e2 with⟨_,e,_⟩ | ⟨_,_,L,e,_⟩
  ·simp at e
  ·exact⟨_,by rw[fp,cq (λbd=>by rw[bd,ayU]at e;cases e)];exact e⟩
 refine⟨bZp,q+1,⟨bXa,⟨by omega,by omega⟩,⟨cUI,_,lK⟩,bXZ,_,BW,bZI,cYO,?_,?_,vJ.imp λb y ai e=>⟨⟨ai.1,(bXn b y ai.f e).1.2⟩,(bXn b y ai.f e).2⟩,bXI.up bUq⟩,⟨bUq.aL,bUq.next,λb ai h=>cz b (by omega) h,bUq.eE,by omega,.inr (by omega)⟩⟩
 ·refine e2.imp (λb y ai e=>⟨⟨ai.2.1,by have:=ai.2.2.1;omega,by omega⟩,?_⟩) λL e=>?_
  ·rw[fp,cq ai.2.1];exact e
  ·rw[fp,cq (λbd=>by rw[bd,ayU]at e;cases e)];exact e
 ·refine .inr ⟨by simp[bZe.bZo],ss++[.int .i64 (-1),.string ⟨#[]⟩,.int .i64 0,.int .i64 0,.slice none 0 0],lK,_,by simpa [bZe.bZo]using qw.app (xs:=[.int .i64 (-1),.string ⟨#[]⟩,.int .i64 0,.int .i64 0,.slice none 0 0]) rfl,λi hi=>?_⟩
  ·have hi:i<s.tree.length+1:=by simpa [bZe.bZo]using hi
   by_cases e:i=s.tree.length
   ·subst e;simp only[bZe.bZo,List.getElem_append_right (bR _),Nat.sub_self,List.getElem_cons_zero,if_true];exact⟨.slice none 0 0,rfl,.nil,λ_ _ _ _ h=>(by cases h)⟩
   ·have hi':i<s.tree.length:=by omega
    simp only[bZe.bZo,List.getElem_append_left hi',e,if_false];exact(bc i hi').imp λdv q=>⟨q.1,q.2.imp λb y ai e=>⟨⟨ai.1,(bXn b y ai.f e).1.2⟩,(bXn b y ai.f e).2⟩⟩
end Go.Dam.C
namespace Go.Dam.C
open Go Go.Dam
variable{X:aY}{pm:Perm}{H H' cL H0:ah}{n:Nat}
theorem bQK(al:bYH X)(g:cl pm H){l:List UInt8}(aO:l.length<1000000)(aF:isNum l=true):Call X pm F.bYW [aW l] H λr H'=>K pm H H'/\c1 H' r (rd l):=by
 refine Call.has al.bYW rfl ?_;simp;refine aR.bZb (B' al.toOb g aO) ?_;rintro r H1 ⟨av,h⟩
 rcases h with⟨e,rfl⟩ | ⟨q,p,e,rfl,aV⟩
 ·simp[isNum,e]at aF
 ·simp[rd,e];exact⟨av,aV⟩
def bQL(o:Option Nat):Int:=match o with
 | some i=>(i:Int)
 | none=>-1
theorem cUY{aj:List eu}{x:List (List UInt8)}(h:∀i,i<aj.length->((aj.getD i bZy).int&&decide ((e1 x i).den≠1))=false):bYL aj x=none:=by
 unfold bYL;rw[List.find?_range_eq_none];intro i hi;rw[h i hi];rfl
theorem cUZ{aj:List eu}{x:List (List UInt8)}{i:Nat}(hi:i<aj.length)(U:((aj.getD i bZy).int&&decide ((e1 x i).den≠1))=true)(h:∀j,j<i->((aj.getD j bZy).int&&decide ((e1 x j).den≠1))=false):bYL aj x=some i:=by
 unfold bYL;rw[List.find?_range_eq_some];exact⟨U,bWd.2 hi,λj aH=>by rw[h j aH];rfl⟩
abbrev cYU:Nat:=T.cQa
theorem cQb(al:bYH X)(g:cl pm H){p:Nat}{cy BW:Value}{rest:List Value}{WN:dI}{aj:List eu}{x:List (List UInt8)}(ai:H.get p=some (.cells (cy::rest) WN))(af:kI H cy aj)(az:kh H BW x)(aO:x.length=aj.length)(aF:x.all isNum=true)(dM:∀s∈x,s.length<=10000)(d':aj.length<=1000):
 Call X pm F.bXB [.pointer (some ⟨p,0,none⟩),BW] H λr H'=>K pm H H'/\r=.int .i64 (bQL (bYL aj x)):=by
 refine Call.mu al.bXB rfl ?_;obtain⟨base,cap,rfl,eU⟩:=af.at;obtain⟨GU,as5,rfl,mK⟩:=az.ex;rw[aO]at mK;obtain⟨bad,ayd⟩:∃bad:Nat->Bool,bad=λi=>(aj.getD i bZy).int&&decide ((e1 x i).den≠1):=⟨_,rfl⟩;have cQc:(∀i,i<aj.length->bad i=false)->bYL aj x=none:=λh=>cUY λi hi=>by have:=h i hi;rw[ayd]at this;exact this
 have kl:∀i,i<aj.length->bad i=true->(∀j,j<i->bad j=false)->bYL aj x=some i:=λi hi U h=>cUZ hi (by rw[ayd]at U;exact U) λj aH=>by have:=h j aH;rw[ayd]at this;exact this
 simp[ai,-bQM,-bQN,-gF]
 refine gG (σ:=Unit) aj.length (λ_ _=>[(0,.pointer (some ⟨p,0,none⟩)),(1,.slice GU x.length as5),(11,.slice base aj.length cap)])
  (λi _ H'=>K pm H H'/\∀j,j<i->bad j=false) () (by decide) (by omega) (by simp) ⟨K.refl g,λj aH=>absurd aH (od _)⟩ (by simp) ?_ ?_
 ·rintro i _ H1 hi ⟨av,axS⟩;have g1:=av.aL;obtain⟨dZ,e6,cVI,cQd,cs,rfl,e2,bd,b1,c,cK,rfl⟩:=eU i hi;obtain⟨bx,cQe,cQf,cQg,w,bUZ,f2,f3,f4,s,f5,rfl⟩:=mK i hi;subst bUZ;have bUu:aj.getD i bZy=c:=by rw[ob,cK];rfl
  have As:e1 x i=rd s:=by simp[e1,List.getD,f5]
  have bQO:bad i=(c.int&&decide ((rd s).den≠1)):=by rw[ayd];show((aj.getD i bZy).int&&decide ((e1 x i).den≠1))=_;rw[bUu,As]
  have cYV:bad i=false->∀j,j<i+1->bad j=false:=λh j aH=>by
   by_cases e:j=i
   ·subst e;exact h
   ·exact axS j (by omega)
  have J4:=fR f5;have cQh:isNum s=true:=(hz.1 aF) s J4;have qi:=dM s J4;have gW:=av.some g e2;have xX:=av.some g f2;obtain⟨q,aV⟩:=bZa (H1.next);obtain⟨aJ,ee⟩:=bZa ((H1.new (.cells [.string ⟨#[]⟩,.string ⟨#[]⟩,.string ⟨#[]⟩,.string ⟨#[]⟩,.bool false] (.t cYU))).put q (.cells [aW c.name,aW c.low,aW c.up,aW c.cost,.bool c.int] (.t cYU)));have aI:=bYz g1 ee aV;have g2:=aI.aL;have vM:=bZC ee;have qp:=bYI aV;have bQm:pm.may q=true:=g1.may (by omega);have f22:=aI.some g1 xX;have aC2:cX cQd (e6+i*5) 5=some [aW c.name,aW c.low,aW c.up,aW c.cost,.bool c.int]:=b1;simp[hi,gW,bd,aC2,g1.pick,g1.make,ptr,c5,<-aV,qp,bQm,setCells,<-ee,vM,-bVA,-bWw,-gF]
  cases hint:c.int with
  | false=>
    simp[zWb,-bVA,-bWw,-gF];refine aR.not (by simp) ?_;simp[-bUv,-bWw,-gF];refine aR.not (by simp) ?_;simp[zWb,-gF];exact⟨av.trans aI,cYV (by rw[bQO,hint];rfl)⟩
  | true=>
    simp[aO,hi,f22,f3,f4,-bVA,-bWw,-gF];refine aR.bZb (vs:=[aW s]) (bQK al g2 (by omega) cQh) ?_;rintro u bN ⟨aQ,hu⟩;have g3:=aQ.aL;simp[-bUv,-bWw,-gF];refine aR.bZb (vs:=[u]) (cQi al.toOb g3 hu.of (sC qi)) ?_;rintro _ _ ⟨rfl,rfl⟩;by_cases hw:(rd s).den=1
    ·simp[hw,-gF];exact⟨(av.trans aI).trans aQ,cYV (by rw[bQO,hw];simp)⟩
    ·simp[hw];refine⟨(av.trans aI).trans aQ,?_⟩;rw[kl i hi (by rw[bQO,hint];simp[hw]) axS];rfl
 ·rintro _ H1 ⟨av,axS⟩;simp;exact⟨av,by rw[cQc axS];rfl⟩
def bXJ(cs:List eu)(i:Nat)(lo up:List UInt8):List eu:=cs.set i {cs.getD i bZy with low:=lo,up:=up}
theorem cYW(al:bYH X)(g:cl pm H){bZk:Value}{cs:List eu}{ba i:Nat}{lo up:List UInt8}(aw:bZn H ba bZk cs.length 5 (bYg cs))(hi:i<cs.length)(d':cs.length<=1000):
 Call X pm F.bXk [bZk,.int .i64 (i:Int),aW lo,aW up] H λr H'=>K pm H H'/\bZn H' H.next r (bXJ cs i lo up).length 5 (bYg (bXJ cs i lo up)):=by
 refine Call.h6 al.bXk rfl λQ bU=>?_;obtain⟨base,cap,e,_⟩:=id aw;subst e;simp[-bQP,-bQQ];refine aR.bZb (vs:=[.slice base cs.length cap]) (bVr (w:=5) (by':=72) al.bYJ g aw (by decide) d' (by decide) (λi cs ⟨c,_,e⟩=>by rw[e];rfl)) ?_;rintro r H1 ⟨av,f,qw,bc⟩;have g1:=av.aL;obtain⟨b,L,cR,b9,rfl,bC,mV⟩:=qw.pos (by omega);have bUu:∀j,j<cs.length->f j=(cs.getD j bZy).cells:=λj aH=>by
  obtain⟨c,ao,e2⟩:=bc j aH;rw[e2,ob,ao];rfl
 obtain⟨j9,FD⟩:=bZa (L.set (i*5+1) (aW lo));obtain⟨kz,wy⟩:=bZa (j9.set (i*5+2) (aW up));obtain⟨fL,fc⟩:=bZa (H1.put b (.cells j9 (.n 5)));obtain⟨fV,fg⟩:=bZa (fL.put b (.cells kz (.n 5)));have bn:=mV.lt hi (show 1<5 by decide);have bh:=mV.lt hi (show 2<5 by decide);have JG:setCells L (i*5+1) [aW lo]=some j9:=by rw[FD];exact setCells_one bn
 have P2:setCells j9 (i*5+2) [aW up]=some kz:=by rw[wy];exact setCells_one (by rw[FD];simpa using bh)
 have cx:=bZC fc;have a2:=bZC fg;have cy:jk j9 5 cs.length λj=>(if j=i then{cs.getD i bZy with low:=lo} else cs.getD j bZy:eu).cells:=by
  rw[FD];exact mV.set hi (by decide) _ (by rw[bUu i hi];simp[eu.cells]) λj aH h=>by simp[h,bUu j aH]
 have dd:jk kz 5 cs.length λj=>(if j=i then{cs.getD i bZy with low:=lo,up:=up} else cs.getD j bZy:eu).cells:=by
  rw[wy];exact cy.set hi (by decide) _ (by simp[eu.cells]) λj _ h=>by simp[h]
 have hm:pm.may b=true:=g.may cR;have hD:K pm H fL:=by rw[fc];exact bp.put av cR bC (by simp) _
 have Y9:K pm H fV:=by rw[fg];exact bp.put hD cR cx (by simp) _
 simp[hi,bC,JG,hm,<-fc,cx,P2,<-fg];refine bU _ _ _ ?_;simp;have hlen:(bXJ cs i lo up).length=cs.length:=by simp[bXJ]
 rw[hlen];refine⟨Y9,bZt.e (lo:=H.next) (hi:=H1.next) (.inr ⟨b,kz,cR,b9,rfl,a2,dd⟩) λj aH=>?_⟩;refine⟨_,?_,rfl⟩;have qG:j<(bXJ cs i lo up).length:=by rw[hlen];exact aH
 have:=bQB (cs:=cs) (i:=i) (j:=j) (c:={cs.getD i bZy with low:=lo,up:=up}) (d:=bZy) hi;rw[<-this];show(bXJ cs i lo up)[j]? = some ((bXJ cs i lo up).getD j bZy);rw[ob,hG qG];rfl
end Go.Dam.C
