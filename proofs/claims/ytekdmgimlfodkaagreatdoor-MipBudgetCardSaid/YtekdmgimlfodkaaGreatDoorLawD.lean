/- What the functions of the program compute, for every input. -/
import Derived.Test.YtekdmgimlfodkaaGreatDoorLawC
import Derived.Test.YtekdmgimlfodkaaGreatDoorLawA
import Derived.Test.YtekdmgimlfodkaaGreatDoorLawB
import Derived.Test.YtekdmgimlfodkaaGreatDoorDamB
import Derived.Deep.Slices
import Derived.SliceStrings
namespace Go.Dam.C
open Go Go.Dam
variable{X:aY}{pm pm':Perm}{H H' cL H0:ah}{n p bt br ct bZp bZw bZi:Nat}{cy dd bZk:Value}{deep:Bool}{s:bZe}{cs:List eu}
theorem bZq.perm(k:bZq pm p bt br bZp bZw H H')(U:pm'.num=none)(aa:pm'.lo<=H'.next):bZq pm' p bt br bZp bZw H H':=⟨k.aL.perm U aa,k.next,k.get,k.eE,k.t,k.r⟩
theorem bZA.k(h:bZA H p cy dd deep bZi s bt br ct)(g:cl pm H)(k:K pm H H'):bZA H' p cy dd deep bZi s bt br ct:=by
 obtain⟨U,aa,b3,vj,BW,bZI,ai,zq,bZY,vJ,bXI⟩:=h;have e:∀b y,bZr p bt br b->H.get b=some y->bZr p bt br b/\H'.get b=some y:=λb y ai e=>⟨ai,k.some g e⟩;exact⟨U,⟨aa.1.imp λ_ q=>k.some g q,aa.2.imp λ_ q=>k.some g q⟩,b3,vj,BW,bZI,k.some g ai,zq.imp e λL q=>k.some g q,bZY.imp (λb y ai h=>⟨ai,(e b y ai.f h).2⟩) λL q=>k.some g q,vJ.imp (λb y ai h=>⟨ai,(e b y ai.f h).2⟩),bXI.up k⟩
theorem bZA.lt(h:bZA H p cy dd deep bZi s bt br ct)(g:cl pm H):p<H.next/\bt<H.next/\br<H.next:=by
 obtain⟨U,⟨⟨_,a⟩,_,b⟩,b3,vj,BW,bZI,ai,_⟩:=h;exact⟨g.lt ai,g.lt a,g.lt b⟩
theorem bZA.new(h:bZA H p cy dd deep bZi s bt br ct)(g:cl pm H){ba k w:Nat}{v:Value}{P:Nat->List Value->Prop}(aw:bZn H' ba v k w P)(aF:H.next<=ba):bZP H' (bZr p bt br) v k w P:=by
 obtain⟨ck,cJ,eT⟩:=h.lt g;exact aw.p.imp (λb y ai e=>⟨⟨by omega,by omega,by omega⟩,e⟩) λ_ _ _ h=>h
theorem c1.cYX(k:bZq pm p bt br bZp bZw H H'){w:Value}{q:Rat}(h:c1 H w q):c1 H' w q:=let ⟨b,U,aa⟩:=h;⟨b,U,k.eE b _ aa⟩
theorem bZD.set{A:Nat->Prop}{v dv:Value}{l:List bZR}(h:bZD H A br v l){k:Nat}(ag:k<l.length)(x:bZR)(aB:bZX H A dv x.d)(nd:∀b,A b->b≠br):
 ∃L L',v=.slice (some ⟨br,0,none⟩) l.length l.length/\H.get br=some (.cells L (.n 5))/\L.length=l.length*5/\setCells L (k*5) (x.cells dv)=some L'/\bZD (H.put br (.cells L' (.n 5))) A br v (l.set k x):=by
 rcases h with⟨_,e⟩ | ⟨rfl,L,aq,f,a8,cg⟩
 ·rw[e]at ag;exact absurd ag (od _)
 ·have aO:=a8.1;have ai:k*5+5<=l.length*5:=by omega
  have uz:∃L',setCells L (k*5) (x.cells dv)=some L':=by
   unfold setCells;rw[dA,bZK (show k*5+(x.cells dv).length<=L.length by simp[bZR.cells];omega)];exact⟨_,rfl⟩
  obtain⟨L',abV⟩:=uz;obtain⟨bn,bh,cu⟩:=M8 abV;have hlen:(x.cells dv).length=5:=rfl;have bYj:∀b y,A b->H.get b=some y->A b/\(H.put br (.cells L' (.n 5))).get b=some y:=λb y ai e=>⟨ai,by rw[cq (nd b ai)];exact e⟩;refine⟨L,L',rfl,aq,aO,abV,.inr ⟨by simp,L',dX,λj=>if j=k then x.cells dv else f j,⟨by simp;omega,λj aH=>?_⟩,λi hi=>?_⟩⟩
  ·have aH:j<l.length:=by simpa using aH
   by_cases e:j=k
   ·subst e;simp only[if_true];refine⟨rfl,λq aV=>?_⟩;rw[cu,hlen,bm (by omega)];congr 1;omega
   ·simp only[e,if_false];refine⟨(a8.2 j aH).1,λq aV=>?_⟩;rw[cu,hlen,aU (by omega)];exact(a8.2 j aH).2 q aV
  ·have hi':i<l.length:=by simpa using hi
   by_cases e:i=k
   ·subst e;simp only[List.getElem_set_self,if_true];exact⟨dv,rfl,aB.imp bYj⟩
   ·simp only[List.getElem_set_ne (Ne.symm e),e,if_false];exact(cg i hi').imp λdv q=>⟨q.1,q.2.imp bYj⟩
theorem bZA.node(h:bZA H p cy dd deep bZi s bt br ct)(g:cl pm H){k:Nat}(ag:k<s.tree.length)(x:bZR){dv:Value}(aB:bZX H (bYM p bt br) dv x.d):
 ∃L L' Hc rest,H.get p=some (.cells (cy::dd::.bool deep::.int .i64 (bZi:Int)::Hc::.slice (some ⟨br,0,none⟩) s.tree.length s.tree.length::rest) (.t bZU))/\H.get br=some (.cells L (.n 5))/\L.length=s.tree.length*5/\setCells L (k*5) (x.cells dv)=some L'/\
  bZA (H.put br (.cells L' (.n 5))) p cy dd deep bZi {s with tree:=s.tree.set k x} bt br ct/\bZq pm p bt br bt br H (H.put br (.cells L' (.n 5))):=by
 obtain⟨U,aa,b3,vj,BW,bZI,ai,zq,bZY,vJ,bXI⟩:=h;obtain⟨L,L',rfl,aK,aO,aG,aS⟩:=bZY.set ag x aB λb ai=>ai.2.2;have dr:p≠br:=λe=>by rw[<-e,ai]at aK;cases aK
 have bYj:∀b y,bZr p bt br b->H.get b=some y->bZr p bt br b/\(H.put br (.cells L' (.n 5))).get b=some y:=λb y ai e=>⟨ai,by rw[cq ai.2.2];exact e⟩;have u:=bp.put (n:=0) (.refl g) (Nat.zero_le _) aK (by simp) (.cells L' (.n 5));refine⟨L,L',b3,_,ai,aK,aO,aG,⟨U,⟨?_,_,dX⟩,b3,_,BW,bZI,by rw[cq dr];simpa using ai,zq.imp bYj λkz e=>?_,by simpa using aS,vJ.imp (λb y ai e=>⟨ai,(bYj b y ai.f e).2⟩),bXI.up u⟩,⟨u.aL,u.next,λb _ h=>cq h.2.2,u.eE,.inl rfl,.inl rfl⟩⟩
 ·by_cases e:bt=br
  ·rw[e];exact⟨_,dX⟩
  ·rw[cq e];exact aa.1
 ·by_cases e2:bt=br
  ·rw[e2,aK]at e;cases e
  ·rw[cq e2];exact e
abbrev cYY:Nat:=T.cQj
theorem getD_at{cs:List eu}{i:Nat}(hi:i<cs.length):cs[i]? = some (cs.getD i bZy):=by
 rw[ob,hG hi];rfl
theorem cQk(al:bYH X)(g:cl pm H)(ey:pm.lo<=p)(h:bZA H p cy dd deep bZi s bt br ct){k i:Nat}(UG:bZP H (bZr p bt br) bZk cs.length 5 (bYg cs))(ag:k<s.tree.length)(hi:i<cs.length)(d':cs.length<=1000){w:Value}{v:Rat}(hw:c1 H w v)
 (IL:ca v=true) (bZf:ca (v.floor:Rat)=true) (bUw:ca ((v.floor:Rat)+1)=true) (aF:s.tree.length<=900) (aS:s.todo.length<=900):
 Call X pm F.bXC [.pointer (some ⟨p,0,none⟩),.agg #[.int .i64 (k:Int),bZk],.int .i64 (i:Int),w] H λ_ H'=>∃bZp bZw bXa,bZA H' p cy dd deep bZi (s.branch k cs i v) bZp bZw bXa/\bZq pm p bt br bZp bZw H H':=by
 refine Call.h6 al.bXC rfl λQ bU=>?_;obtain⟨cb,cp,e⟩:=UG.form;obtain⟨_,_,e2,kj,hb⟩:=id UG;subst e;cases e2;have lI:cb≠none:=λe=>by have:=kj e;omega
 cases cb with
 | none=>exact absurd rfl lI
 | some aAh=>
 obtain⟨b,off,y,row,rfl,KT,bu,nU,_,mW⟩:=hb _ rfl;obtain⟨_,x7,_,Cg,rfl⟩:=mW i hi;rw[getD_at hi]at Cg;cases Cg;obtain⟨c,af⟩:=bZa (cs.getD i bZy);rw[<-af]at x7;have cQl:cX row (off+i*5) 5=some [aW c.name,aW c.low,aW c.up,aW c.cost,.bool c.int]:=x7;obtain⟨aIO,Rf⟩:=bZa (H.next);obtain⟨H1,cw⟩:=bZa (H.new (.cells [.int .i64 (k:Int),.slice (some ⟨b,off,none⟩) cs.length cp] (.t bXH)));have av:=bZv g cw;have g1:=av.aL;have n1:=bV cw Rf;have h4:=bZQ cw Rf;simp[g.pick,g.make,ptr,<-Rf,<-cw,-bQR,-bQS];refine aR.bZb (vs:=[w]) (cQm al.toOb g1 (hw.up av).of IL) ?_;rintro aCz aJ ⟨aI,bVB⟩;have g2:=aI.aL;have cQn:=aI.next;have h8:=av.trans aI;have eA:=aI.some g1 h4;have wS:=h8.some g bu;obtain⟨ayp,YS⟩:=bZa (aJ.next);have bQT:pm.may ayp=true:=g2.may (by omega);have cQo:=bYI YS;obtain⟨bN,iO⟩:=bZa ((aJ.new (.cells [.string ⟨#[]⟩,.string ⟨#[]⟩,.string ⟨#[]⟩,.string ⟨#[]⟩,.bool false] (.t cYY))).put ayp (.cells [aW c.name,aW c.low,aW c.up,aW c.cost,.bool c.int] (.t cYY)));have aQ:=bYz g2 iO YS;have g3:=aQ.aL;have IK:=bVt iO YS;have jH:=h8.trans aQ;have bQU:=bZC iO;have bQV:=aQ.some g2 eA;have Au:=bVB.up aQ;have bXo:=h.k g jH;simp[eA,hi,wS,nU,cQl,g2.pick,g2.make,ptr,c5,<-YS,cQo,bQT,setCells,<-iO,-bQW];refine eg.of g3.lo rfl ?_;obtain⟨z,bl⟩:=bZa (bN.next);have bE:K pm bN (bN.up 11):=(K.refl g3).up 11;have mS:=λj=>(by rw[bl];exact g3.none j:(bN.up 11).get (z+j)=none);have FA:=(by rw[bl];exact g3.fo:(bN.up 11).get z=none);rw[<-bl];simp[dt,mS,FA,bQV,bQU];refine bZx bE.aL (vs:=[aCz]) (by simp[mS]) (λpm' bS=>kM bS (Cj al.toOb bS (Au.up bE).of bZf)) ?_;rintro _ _-⟨rfl,rfl⟩;simp;refine bYf bE.aL (vs:=[.slice (some ⟨b,off,none⟩) cs.length cp,.int .i64 (i:Int),aW c.low,aW (dB (v.floor:Rat))]) (by simp[mS]) (λpm' bS=>cYW al bS (UG.e.imp ((jH.trans bE).ext g) λ_ _ _ h=>h) hi d') ?_;rintro kf zq1 zq0 a8;have g4:=zq0.aL;have ji:=K.trans bE zq0;have ot:=zq0.res g3;rw[<-bl]at ot;have bXK:=bXo.k g3 ji;have aGn:(bN.up 11).next=z+11:=by rw[bl];rfl
 have aGm:=zq0.next;have b1:bXJ cs i c.low (dB (v.floor:Rat))=bXz cs i (dB (v.floor:Rat)):=by rw[af];rfl
 rw[b1]at a8;have cQp:=bXo.new g3 a8 (by omega);obtain⟨aC5,aC6,dYv⟩:=bXo.lt g3;obtain⟨cQq,cQr,cQs⟩:=h.lt g;simp;refine g'.fixed (vs:=[.pointer (some ⟨p,0,none⟩),kf]) (by simp[ot]) (by simp) (by simp) rfl (bQE al (g4.perm rfl g4.lo) ey bXK cQp (by omega) (by omega)) ?_;rintro vN cV ⟨bQX,bQY,cYZ,rfl,bXb,bYs⟩;have bYs:=bYs.perm (pm':=pm) g.num (by have:=bYs.next;have:=g4.lo;omega);have g5:=bYs.aL;have cUn:=bYs.next;have f5:bZr p bt br aIO:=⟨by omega,by omega,by omega⟩;have f9:bZr p bt br ayp:=⟨by omega,by omega,by omega⟩;have bVC:=bYs.some g4 f5 (ji.some g3 bQV);have bUx:=bYs.some g4 f9 (ji.some g3 bQU);have AQ:=(Au.up ji).cYX bYs;have cQt:=bYs.cYL g4 (UG.imp (λb y ai e=>⟨ai,(K.trans jH ji).some g e⟩) λ_ _ _ h=>h) λ_ _ _ h=>h;have d1:∀m,gp (gI m [aCz]) [aIO]=true:=λm=>rA Au bQV m;have d2:∀m,gp (gI m [aCz]) [ayp]=true:=λm=>rA Au bQU m;simp[dx,dm,ez,d1,d2,show aIO<z by omega,show ayp<z by omega,-bWa];refine⟨(bYs.get _ (by omega) ⟨by omega,by omega,by omega⟩).trans (ot 10 (by decide)),?_⟩;have lf:=bXb.lt g5;have dYw:=g5.lt bVC;have pR:=g5.lt bUx;refine eg.of g5.lo rfl ?_;obtain⟨aIE,asx⟩:=bZa (cV.next);have bWx:K pm cV (cV.up 13):=(K.refl g5).up 13;have iy:=λj=>(by rw[asx];exact g5.none j:(cV.up 13).get (aIE+j)=none);have bQZ:=(by rw[asx];exact g5.fo:(cV.up 13).get aIE=none);have dYx:(cV.up 13).next=aIE+13:=by rw[asx];rfl
 rw[<-asx];simp[dt,iy,bQZ,bVC,bUx,-bWa];refine bZx bWx.aL (vs:=[.int .i64 1]) (by simp[iy]) (λpm' bS=>sE al.toOb bS (n:=1) (by decide) (by decide)) ?_;rintro on ep cv bUy;have g6:=cv.aL;have we:=K.trans bWx cv;have cXa:=cv.res g5;rw[<-asx]at cXa;have ao:((1:Int):Rat)=1:=rfl;rw[ao]at bUy;simp[-bWa];have cQu:ca (1:Rat)=true:=by decide +kernel
 refine bZx g6 (vs:=[aCz,on]) (by simp[cXa]) (λpm' bS=>v8 al.toOb bS (AQ.up we).of bUy.of bZf cQu) ?_;rintro dk hM dJ aHx;have g7:=dJ.aL;have acz:=K.trans we dJ;have cZa:=(K.trans cv dJ).res g5;rw[<-asx]at cZa;simp[-bWa];refine bZx g7 (vs:=[dk]) (by simp[cZa]) (λpm' bS=>kM bS (Cj al.toOb bS aHx.of bUw)) ?_;rintro _ _-⟨rfl,rfl⟩;simp[-bWa];refine bYf g7 (vs:=[.slice (some ⟨b,off,none⟩) cs.length cp,.int .i64 (i:Int),aW (dB ((v.floor:Rat)+1)),aW c.up]) (by simp[cZa]) (λpm' bS=>cYW al bS (cQt.e.imp (acz.ext g5) λ_ _ _ h=>h) hi d') ?_;rintro abn ns jZ Ei;have g8:=jZ.aL;have cXb:=K.trans acz jZ;have cZb:=(K.trans cv (K.trans dJ jZ)).res g5;rw[<-asx]at cZb;have bWy:=bXb.k g5 cXb;have mh:bXJ cs i (dB ((v.floor:Rat)+1)) c.up=bXY cs i (dB ((v.floor:Rat)+1)):=by rw[af];rfl
 rw[mh]at Ei;have bUk:=cv.next;have cQv:=dJ.next;have dYy:=jZ.next;have cQw:=bXb.new g5 Ei (by omega);simp[-bWa];refine g'.fixed (vs:=[.pointer (some ⟨p,0,none⟩),abn]) (by simp[cZb]) (by simp) (by simp) rfl (bQE al (g8.perm rfl g8.lo) ey bWy cQw (by simp[bZe.bZo];omega) (by simp[bZe.bZo];omega)) ?_;rintro aHk yf ⟨cXc,bVD,cQx,rfl,cZc,bWz⟩;have bWz:=bWz.perm (pm':=pm) g.num (by have:=bWz.next;have:=g8.lo;omega);have g9:=bWz.aL;have dYz:=bWz.next;have cZd:=(bZq.bXm (p:=p) (bt:=bQX) (br:=bQY) cXb).trans bWz;have f55:=bYs.bQD (by omega) f5;have cZe:=cZd.some g5 f55 bVC;have cZf:=AQ.cYX cZd;have d3:∀m,gp (gI m [aCz,on]) [aIO]=true:=λm=>qz (AQ.up we) bUy (we.some g5 bVC) m;have d4:∀m,gp (gI m [aCz,on]) [ayp]=true:=λm=>qz (AQ.up we) bUy (we.some g5 bUx) m;have d5:∀m,gp (gI m [dk]) [aIO]=true:=λm=>rA aHx (acz.some g5 bVC) m;have d6:∀m,gp (gI m [dk]) [ayp]=true:=λm=>rA aHx (acz.some g5 bUx) m;have d7:∀m,gI m [Value.int .i64 1]=[]:=λm=>rfl;simp[dx,dm,eJ,ez,d3,d4,d5,d6,d7,show aIO<aIE by omega,show ayp<aIE by omega];refine⟨(bWz.get _ (by omega) ⟨by omega,by omega,by omega⟩).trans (cZb 12 (by decide)),?_⟩;have UE:k<((s.bZo (bXz cs i (dB (v.floor:Rat)))).bZo (bXY cs i (dB ((v.floor:Rat)+1)))).tree.length:=by simp[bZe.bZo];omega
 have bWA:K pm yf (yf.up 14):=(K.refl g9).up 14;have cXd:=bWA.aL;obtain⟨L,L',Hc,rest,YS,abj,cXe,uz,cXf,cXg⟩:=(cZc.k g9 bWA).node cXd UE ⟨i,dB (v.floor:Rat),s.tree.length,s.tree.length+1,[]⟩ (dv:=.slice none 0 0) ⟨.nil,λ_ _ _ _ h=>(by cases h)⟩;have cQy:((s.bZo (bXz cs i (dB (v.floor:Rat)))).bZo (bXY cs i (dB ((v.floor:Rat)+1)))).tree.length=s.tree.length+2:=by simp[bZe.bZo]
 rw[cQy]at YS cXe;refine eg.of g9.lo rfl ?_;obtain⟨y,cZg⟩:=bZa (yf.next);have RA:=λj=>(by rw[cZg];exact g9.none j:(yf.up 14).get (y+j)=none);have bVE:=(by rw[cZg];exact g9.fo:(yf.up 14).get y=none);rw[<-cZg];have bVF:=YS;simp only[zY]at bVF abj;simp[dt,RA,bVE,cZe,bVF];refine bZx cXd (vs:=[aCz]) (by simp[RA]) (λpm' bS=>kM bS (Cj al.toOb bS (cZf.up bWA).of bZf)) ?_;rintro _ _-⟨rfl,rfl⟩;obtain⟨A,nd⟩:=bZa ((yf.up 14).put bVD (.cells L' (.n 5)));have d8:∀m,gp (gI m [aCz]) [p]=true:=λm=>rA (cZf.up bWA) YS m;have d9:∀m,gp (gI m [aCz]) [aIO]=true:=λm=>rA (cZf.up bWA) (bWA.some g9 cZe) m;have kb:(((s.bZo (bXz cs i (dB (v.floor:Rat)))).tree.length:Nat):Int)=(s.tree.length:Int)+1:=by simp[bZe.bZo]
 have cQz:setCells L (k*5) [.int .i64 (i:Int),aW (dB (v.floor:Rat)),.int .i64 (s.tree.length:Int),.int .i64 ((s.tree.length:Int)+1),.slice none 0 0]=some L':=uz;have pN:=cZc.lt g9;have cQA:=λo=>jh (lo:=pm.lo) (ok:=pm.ok) (o:=o) (b:=bVD) (by have:=cZc.ge;omega);have dYA:=g9.lt cZe;rw[<-nd]at cXf cXg;simp[RA,fill,kb,show k<s.tree.length+2 by omega,c5,abj,cQz,cQA,<-nd,dx,dm,ez,d8,d9,show p<y by omega,show aIO<y by omega,show bVD<y by omega];refine bU _ _ _ ?_;simp;have cQB:bZq pm p bt br cXc bVD H A:=(((bZq.bXm (p:=p) (bt:=bt) (br:=br) (K.trans jH ji)).trans bYs).trans cZd).trans ((bZq.bXm bWA).trans cXg);exact⟨cXc,bVD,⟨cQx,cXf⟩,cQB⟩
end Go.Dam.C
namespace Go.Dam.C
open Go Go.Dam
variable{X:aY}{pm:Perm}{H H' cL H0:ah}{n:Nat}
theorem cUJ{bt ct k n lo zb cp:Nat}{okl:List Nat}{L:List Value}(h:H.get bt=some (.cells L (.n 2)))(bC:L.length=ct*2)(ag:k+1+n<=ct)(au:∀j,j<(k+1+n)*2->∃v,L[j]? = some v/\fG v=true)(hm:Perm.may ⟨lo,okl,some zb⟩ bt=true):
 ∃j9 H' F M,(hV 2 (.slice (some ⟨bt,(k+1)*2,none⟩) n cp) λnew m=>iV 2 32 (.slice (some ⟨bt,0,none⟩) k ct) new m).runT ⟨lo,okl,some zb⟩ H=some (.slice (some ⟨bt,0,none⟩) (k+n) ct,H',F,M)/\H'.get bt=some (.cells j9 (.n 2))/\j9.length=ct*2/\
  (∀b,b≠bt->H'.get b=H.get b)/\H'.next=H.next/\(∀x∈F,x=bt)/\(∀j,j<(k+n)*2->j9[j]? = if j<k*2 then L[j]? else L[j+2]?)/\(∀{ba:Nat} {H0:ah} {pm:Perm},bp pm ba H0 H->ba<=bt->bp pm ba H0 H'):=by
 have x7:cX L ((k+1)*2) (n*2)=some ((L.drop ((k+1)*2)).take (n*2)):=CG (by omega);by_cases e:n=0
 ·subst e;refine⟨L,H,[bt],[],?_,h,bC,λ_ _=>rfl,rfl,by simp,λj aH=>by rw[bm (by omega)],λu _=>u⟩;unfold hV;simp only[bF.runT,h,rowOf,x7];unfold iV;simp[bF.runT]
 ·have mc:((L.drop ((k+1)*2)).take (n*2)).all fG=true:=by
   rw[hz];intro v aw;obtain⟨j,aH,rfl⟩:=bVp aw;have qG:j<n*2:=by simp at aH;omega
   obtain⟨v,U,aa⟩:=au ((k+1)*2+j) (by omega);have:((L.drop ((k+1)*2)).take (n*2))[j]? = some v:=by rw[pT qG,o'];exact U
   rw[hG aH]at this;rw[bYd this];exact aa
  have hlen:((L.drop ((k+1)*2)).take (n*2)).length=n*2:=by simp;omega
  have uz:∃L',setCells L (k*2) ((L.drop ((k+1)*2)).take (n*2))=some L':=by
   unfold setCells;rw[dA,bZK (by rw[hlen];omega)];exact⟨_,rfl⟩
  obtain⟨j9,FD⟩:=uz;obtain⟨bn,bh,cu⟩:=M8 FD;refine⟨j9,H.put bt (.cells j9 (.n 2)),[bt,bt],[bt],?_,dX,by omega,λb ai=>cq ai,rfl,by simp,λj aH=>?_,λu aF=>bp.put u aF h (by simp) _⟩
  ·unfold hV;simp only[bF.runT,h,rowOf,x7];unfold iV;simp[e,show k+n<=ct by omega,putRow,h,mc,FD,hm]
  ·rw[cu,hlen];by_cases e2:j<k*2
   ·rw[bm e2,aU (by omega)]
   ·rw[aU e2,bm (by omega),pT (by omega),o'];congr 1;omega
theorem cYQ{c off l h m cap:Nat}{cs:List Value}{pq:Perm}(ai:H.get c=some (.cells cs (.n 2)))(U:l<=h)(aa:h<=m)(aq:m<=cap):
 (nK 2 (some ⟨c,off,none⟩) l h m cap).runT pq H=some (.slice (some ⟨c,off+l*2,none⟩) (h-l) (m-l),H,[c],[]):=by
 unfold nK;simp[U,aa,aq,ai,bF.runT]
theorem cUK(al:Has X F.bYY C.bYY)(g:cl pm H){bt ct k len:Nat}{L:List Value}(h:H.get bt=some (.cells L (.n 2)))(bC:L.length=ct*2)(hlen:len<=ct)(ag:k<len)(aO:len<=1000000)(au:∀j,j<len*2->∃v,L[j]? = some v/\fG v=true)(ey:pm.lo<=bt):
 Call X pm F.bYY [.slice (some ⟨bt,0,none⟩) len ct,.int .i64 (k:Int),.int .i64 ((k:Int)+1)] H λr H'=>r=.slice (some ⟨bt,0,none⟩) (len-1) ct/\∃L',H'.get bt=some (.cells L' (.n 2))/\L'.length=ct*2/\(∀b,b≠bt->H'.get b=H.get b)/\(∀j,j<(len-1)*2->L'[j]? = if j<k*2 then L[j]? else L[j+2]?)/\bp pm bt H H':=by
 refine Call.h6 al rfl λQ bU=>?_;have iM:=g.lt h;obtain⟨z,bl⟩:=bZa (H.next);have bE:K pm H (H.up 8):=(K.refl g).up 8;have mS:=λj=>(by rw[bl];exact g.none j:(H.up 8).get (z+j)=none);have FA:=(by rw[bl];exact g.fo:(H.up 8).get z=none);obtain⟨eG,pZ⟩:=bZa (len-(k+1));obtain⟨j9,fL,F,M,ao,e2,bd,b1,cK,il,nM,mh⟩:=cUJ (H:=H.up 8) (bt:=bt) (ct:=ct) (k:=k) (n:=eG) (lo:=pm.lo) (zb:=z+6) (cp:=ct-(k+1)) (okl:=pm.ok) (L:=L) h bC (by omega) (λj aH=>au j (by omega)) (jh ey);have oP:∀j,fL.get (z+j)=none:=λj=>by rw[b1 _ (by omega)];exact mS j
 have uz:∃kz,setCells j9 ((k+eG)*2) [.int .i64 0,.slice none 0 0]=some kz:=by
  unfold setCells;rw[dA,bZK (by simp;omega)];exact⟨_,rfl⟩
 obtain⟨kz,wy⟩:=uz;obtain⟨bn,bh,cu⟩:=M8 wy;obtain⟨fV,fg⟩:=bZa (fL.put bt (.cells kz (.n 2)));have x9:pm.may bt=true:=jh ey;have dYu:wr .i64 ((k:Int)+1)=(k:Int)+1:=zWc (by omega) (by omega);have nP:et (some (Value.int .i64 ((k:Int)+1)))=some (k+1):=by
  have:((k:Int)+1)=((k+1:Nat):Int):=by simp
  rw[this];simp[et]
 have Mo:k+eG=len-1:=by omega
 have u8:bp pm bt H fL:=mh (bE.mono (by omega)) (bR _);have fm:bp pm bt H fV:=by rw[fg];exact bp.put u8 (bR _) e2 (by simp) _
 have qi:=aar (pm:=pm) (esz:=2) (off:=0) (m:=len) (cap:=ct) h (.inl rfl) (show k<=k+1 by omega) (by omega) hlen;have cYR:=cYQ (H:=H.up 8) (off:=0) (l:=0) (h:=k) (m:=ct) (cap:=ct) (pq:=⟨pm.lo,pm.ok,some (z+2)⟩) h (by omega) (by omega) (bR _);have bQH:=cYQ (H:=H.up 8) (off:=0) (l:=k+1) (h:=len) (m:=ct) (cap:=ct) (pq:=⟨pm.lo,pm.ok,some (z+5)⟩) h (by omega) (by omega) (bR _);rw[<-pZ]at bQH;simp only[Nat.zero_mul,Nat.zero_add,Nat.sub_zero]at cYR bQH;simp[nP,qi,show ¬(k:Int)=(k:Int)+1 by omega,-bUr];refine eg.of g.lo rfl ?_;rw[<-bl];simp[dt,mS,FA,nP,cYR,bQH,ao,oP,show bt<z by omega,dx,dm,-hV,-bUr];refine⟨λx az=>.inl (.inl (.inl (by have:=il x az;omega))),?_⟩;have E1:=aar (pm:=pm) (esz:=2) (off:=0) (l:=k+eG) (h:=len) (m:=ct) (cap:=ct) e2 (.inl rfl) (by omega) (by omega) (bR _);rw[show len-(k+eG)=1 by omega,Nat.zero_add]at E1;have cUL:et (some (Value.int .i64 ((k:Int)+(eG:Int))))=some (k+eG):=by
  have:((k:Int)+(eG:Int))=((k+eG:Nat):Int):=by simp
  rw[this];simp[et]
 simp[cUL,E1,HC,times,e2,wy,x9,<-fg];refine bU _ _ _ ?_;simp;refine⟨by omega,kz,by rw[fg];exact dX,by omega,λb ai=>?_,λj aH=>?_,fm⟩
 ·rw[fg,cq ai,b1 b ai];rfl
 ·rw[cu,aU (by omega)];exact nM j (by omega)
variable{p bt br ct bZi:Nat}{cy dd:Value}{deep:Bool}{s:bZe}
theorem cUM{α:Type}{l:List α}{k i:Nat}(ag:k<l.length)(hi:i<(l.eraseIdx k).length):∃h,(l.eraseIdx k)[i]=l[if i<k then i else i+1]'h:=by
 have aO:(l.eraseIdx k).length=l.length-1:=by rw[List.length_eraseIdx,bm ag]
 have h:(if i<k then i else i+1)<l.length:=by split<;>omega
 refine⟨h,?_⟩;rw[List.getElem_eraseIdx];by_cases e:i<k<;>simp[e]
theorem cUN(al:bYH X)(g:cl pm H)(ey:pm.lo<=p)(h:bZA H p cy dd deep bZi s bt br ct)(dr:s.todo≠[])(aF:s.todo.length<=1000):
 Call X pm F.bXA [.pointer (some ⟨p,0,none⟩)] H λr H'=>∃x bZk,s.todo[bYh deep s.todo.length]? = some x/\r=.agg #[.int .i64 (x.1:Int),bZk]/\bZP H' (bZr p bt br) bZk x.2.length 5 (bYg x.2)/\bZA H' p cy dd deep bZi (s.del (bYh deep s.todo.length)) bt br ct/\bZq pm p bt br bt br H H':=by
 refine Call.h6 al.bXA rfl λQ bU=>?_;obtain⟨⟨LN,acN⟩,bXl,b3,vj,BW,bZI,ai,zq,bZY,vJ,bXI⟩:=h;have lp:=g.lt ai;have hlen:0<s.todo.length:=bXr.2 dr
 rcases zq with⟨_,e,_⟩ | ⟨rfl,cYK,L,aK,bC,eU⟩
 ·exact absurd e dr
 have cUA:=g.lt aK;have wO:p≠bt:=λe=>by rw[<-e,ai]at aK;cases aK
 obtain⟨k,ag⟩:=bZa (bYh deep s.todo.length);have sJ:k<s.todo.length:=by rw[ag];unfold bYh;split<;>omega
 obtain⟨x,az⟩:=bZa (s.todo[k]);obtain⟨kH,bZk,cUO,UG⟩:=eU k sJ;rw[<-az]at kH UG;have x7:cX L (k*2) 2=some [.int .i64 (x.1:Int),bZk]:=by
  rw[CG (by omega)];congr 1;apply bYQ;intro j
  rcases j with _ | _ | j
  ·rw[pT (by decide),o'];simpa using kH
  ·rw[pT (by decide),o'];simpa using cUO
  ·rw[jq (by simp;omega)];simp
 have oA:∀j,j<s.todo.length*2->∃v,L[j]? = some v/\fG v=true:=λj aH=>by
  obtain⟨a0,bUs,cx,a2⟩:=eU (j/2) (by omega)
  rcases Nat.mod_two_eq_zero_or_one j with e | e
  ·rw[show j/2*2=j by omega]at a0;exact⟨_,a0,rfl⟩
  ·rw[show j/2*2+1=j by omega]at cx;obtain⟨b,c,e⟩:=a2.form;exact⟨bUs,cx,by rw[e];rfl⟩
 obtain⟨bG,lk⟩:=bZa (H.next);obtain⟨H1,cw⟩:=bZa (H.new (.cells [.int .i64 0,.slice none 0 0] (.t bXH)));have av:=bZv g cw;have g1:=av.aL;have n1:=bV cw lk;have cUP:=bZQ cw lk;have gN:=av.some g ai;have h4:=av.some g aK;obtain⟨aIN,aFl⟩:=bZa (H1.next);have oj:pm.may bG=true:=g.may (by omega);have aDI:pm.may aIN=true:=g1.may (by omega);have cUQ:=bYI aFl;obtain⟨cb,cp,bQC⟩:=UG.form;subst bQC;obtain⟨aJ,ee⟩:=bZa ((H1.new (.cells [.int .i64 0,.slice none 0 0] (.t bXH))).put aIN (.cells [.int .i64 (x.1:Int),.slice cb x.2.length cp] (.t bXH)));have aI:=bYz g1 ee aFl;have g2:=aI.aL;have h8:=av.trans aI;have n2:=bVt ee aFl;have yH:=aI.some g1 gN;have eA:=aI.some g1 h4;have RI:=aI.some g1 cUP;have cUR:=bZC ee;have cUS:wr .i64 ((k:Int)+1)=(k:Int)+1:=zWc (by omega) (by omega);have cUT:wr .i64 ((s.todo.length:Int)-1)=((s.todo.length-1:Nat):Int):=by rw[zWc (by omega) (by omega)];omega
 have rest:∀l,a7 0 l=some (.pointer (some ⟨p,0,none⟩))->a7 2 l=some (.pointer (some ⟨bG,0,none⟩))->a7 3 l=some (.int .i64 (k:Int))->wp X pm (.code C.bVz) l H1 [] Q:=λl c0 cJ eT=>by
  simp[c0,eT,gN,sJ,h4,x7,g1.pick,g1.make,ptr,c5,<-aFl,cUQ,aDI,setCells,<-ee,cUS,yH,-bQI];refine aR.bZb (vs:=[.slice (some ⟨bt,0,none⟩) s.todo.length ct,.int .i64 (k:Int),.int .i64 ((k:Int)+1)]) (cUK al.bYY g2 eA bC cYK sJ (by omega) oA (by omega)) ?_;rintro _ bN ⟨rfl,L',jU,abV,bUt,mW,fu⟩;have g3:=fu.aL;have YI:=fu.next;have C9:=(bUt p wO).trans yH;obtain⟨zq1,nZ⟩:=bZa (bN.put p (.cells [cy,dd,.bool deep,.int .i64 (bZi:Int),.slice (some ⟨bt,0,none⟩) (s.todo.length-1) ct,vj,.int .i64 s.bZh.st,aW s.bZh.val,BW,.slice none 0 0,.slice none 0 0,bZI] (.t bZU)));have aDV:=bZC nZ;have cUU:zq1.get aIN=some (.cells [.int .i64 (x.1:Int),.slice cb x.2.length cp] (.t bXH)):=by rw[nZ,cq (by omega),bUt _ (by omega)];exact cUR
  have cYS:zq1.get bG=some (.cells [.int .i64 0,.slice none 0 0] (.t bXH)):=by rw[nZ,cq (by omega),bUt _ (by omega)];exact RI
  obtain⟨cV,r5⟩:=bZa (zq1.put bG (.cells [.int .i64 (x.1:Int),.slice cb x.2.length cp] (.t bXH)));have cUV:=bZC r5;have bWv:pm.may p=true:=jh ey;simp[C9,bWv,setCells,<-nZ,cUU,cYS,oj,cX,c5,<-r5,cJ];refine bU _ _ _ ?_;simp[ik,cUV,cX,c5,cJ];have eX:bp pm p H zq1:=by rw[nZ];exact bp.put ((bp.trans (bp.mono h8 (by omega)) (bp.mono fu (by omega)):bp pm p H bN)) (bR _) C9 (by simp) _
  have hl:bp pm p H cV:=by rw[r5];exact bp.put eX (by omega) cYS (by simp) _
  have cz:∀b,b<H.next->b≠p->b≠bt->cV.get b=H.get b:=λb U aa aq=>by
   rw[r5,cq (by omega),nZ,cq aa,bUt b aq];exact h8.get b U
  have bXn:∀b y,bZr p bt br b->H.get b=some y->bZr p bt br b/\cV.get b=some y:=λb y h e=>⟨h,by rw[cz b (g.lt e) h.1 h.2.1];exact e⟩;have bQJ:cV.get bt=some (.cells L' (.n 2)):=by rw[r5,cq (by omega),nZ,cq (Ne.symm wO)];exact jU
  have cYT:cV.get p=some (.cells [cy,dd,.bool deep,.int .i64 (bZi:Int),.slice (some ⟨bt,0,none⟩) (s.todo.length-1) ct,vj,.int .i64 s.bZh.st,aW s.bZh.val,BW,.slice none 0 0,.slice none 0 0,bZI] (.t bZU)):=by rw[r5,cq (by omega)];exact aDV
  have cUW:s.todo[bYh deep s.todo.length]? = some x:=by rw[<-ag,az,hG sJ]
  have rh:(s.todo.eraseIdx k).length=s.todo.length-1:=by rw[List.length_eraseIdx,bm sJ]
  obtain⟨cYM,aaG⟩:=bXl.2;have cUX:∃y,cV.get br=some y:=by
   by_cases e:br=p
   ·rw[e];exact⟨_,cYT⟩
   ·by_cases e2:br=bt
    ·rw[e2];exact⟨_,bQJ⟩
    ·exact⟨cYM,by rw[cz br (g.lt aaG) e e2];exact aaG⟩
  rw[<-ag];refine⟨x.1,x.2,?_,_,⟨rfl,rfl⟩,UG.imp bXn λ_ _ _ h=>h,⟨⟨LN,acN⟩,⟨⟨_,bQJ⟩,cUX⟩,_,vj,BW,bZI,cYT,?_,?_,vJ.imp λb y ai e=>⟨ai,(bXn b y ai.f e).2⟩,bXI.up hl⟩,⟨hl.aL,hl.next,λb ai h=>cz b ai h.1 h.2.1,hl.eE,.inl rfl,.inl rfl⟩⟩
  ·rw[ag];exact cUW
  ·refine .inr ⟨by simp[bZe.del,rh],by simp only[bZe.del];omega,L',bQJ,abV,λi hi=>?_⟩;simp only[bZe.del]at hi|-;obtain⟨aH,e⟩:=cUM sJ hi;rw[rh]at hi;rw[e];obtain⟨a0,bUs,cx,a2⟩:=eU _ aH;rw[mW (i*2) (by omega),mW (i*2+1) (by omega)];by_cases e2:i<k
   ·rw[bm (show i*2<k*2 by omega),bm (show i*2+1<k*2 by omega)];simp only[e2,if_true]at a0 cx a2|-;exact⟨a0,bUs,cx,a2.imp bXn λ_ _ _ h=>h⟩
   ·rw[aU (show ¬i*2<k*2 by omega),aU (show ¬i*2+1<k*2 by omega)];simp only[e2,if_false]at a0 cx a2|-;rw[show(i+1)*2=i*2+2 by omega]at a0;rw[show(i+1)*2+1=i*2+1+2 by omega]at cx;exact⟨a0,bUs,cx,a2.imp bXn λ_ _ _ h=>h⟩
  ·refine bZY.imp (λb y ai e=>⟨ai,(bXn b y ai.f e).2⟩) λkz e=>?_;have atp:br≠p:=λe2=>by rw[e2,ai]at e;cases e
   have vu:br≠bt:=λe2=>by rw[e2,aK]at e;cases e
   rw[cz br (g.lt e) atp vu];exact e
 cases aB:deep with
 | false=>
   simp[g.pick,g.make,ptr,<-lk,<-cw,gN,aB,-bVz];refine rest _ (by simp) (by simp) ?_;have:k=0:=by rw[ag,aB];rfl
   simp[this]
 | true=>
   simp[g.pick,g.make,ptr,<-lk,<-cw,gN,aB,cUT,-bVz];refine rest _ (by simp) (by simp) ?_;have:k=s.todo.length-1:=by rw[ag,aB];rfl
   simp[this]
end Go.Dam.C
namespace Go.Dam.C
open Go Go.Dam
variable{X:aY}{pm pm':Perm}{H H' cL H0:ah}{n:Nat}
theorem cQC{lp:bD}{T:b8}(h:iA lp)(bK:j0 lp.aX (hE lp) T):cP kV (lp.nh T.v):=by
 have U:=azx h.hE bK.inv bK.Ae h.F4.v1 (λk ag=>(bK.at' k ag).cP h.F4) h.Ke.p h.Ke.le h.Ke.z;refine cP.mono (a:=lp.aX.n*(oW lp.aj.length*qN lp.aX.n ((lp.aX.n*oW lp.aj.length)^lp.aX.n) (uH lp.aj.length) hc)+qN lp.aX.n ((lp.aX.n*oW lp.aj.length)^lp.aX.n) (uH lp.aj.length) hc) U ?_;have aF:=h.n;have ao:oW lp.aj.length<=bZg 210:=by
  unfold oW;rw[show hc*hc^lp.aj.length=hc^(lp.aj.length+1) by rw[bZm,gw],F7,bZH];exact iH (by decide) (by omega)
 have e2:qN lp.aX.n ((lp.aX.n*oW lp.aj.length)^lp.aX.n) (uH lp.aj.length) hc<=bZg 1660:=bH (hS _ _) (azL aF);have bd:oW lp.aj.length*qN lp.aX.n ((lp.aX.n*oW lp.aj.length)^lp.aX.n) (uH lp.aj.length) hc<=bZg 1870:=by
  have:=ie ao e2;rwa [bVu (show 210+1660=1870 by decide)]at this
 have b1:lp.aX.n*(oW lp.aj.length*qN lp.aX.n ((lp.aX.n*oW lp.aj.length)^lp.aX.n) (uH lp.aj.length) hc)<=6*bZg 1870:=ie aF bd;have cK:bZg 1660<=bZg 1870:=bXX (by decide);have il:kV=bZg 30*bZg 1870:=(bVu (show 30+1870=1900 by decide)).symm;have nM:7<=bZg 30:=bH (show 7<=bZg 1 by rw[bZH];decide) (bXX (by decide));have mh:=hQ (bZg 1870) nM;generalize lp.aX.n*(oW lp.aj.length*qN lp.aX.n ((lp.aX.n*oW lp.aj.length)^lp.aX.n) (uH lp.aj.length) hc)=a at*
 generalize qN lp.aX.n ((lp.aX.n*oW lp.aj.length)^lp.aX.n) (uH lp.aj.length) hc=b at*
 rw[il];generalize bZg 1870=p at*
 generalize bZg 30*p=r at*
 omega
theorem cXh{lp:bD}(h:iA lp)(hm:lp.dP=true){a:iz}(aG:bZJ lp a)(U:a.st=1):isNum a.val=true/\a.val.length<=10000:=by
 cases aG with
 | inf T i g1 g2 g3=>cases U
 | Q1 T i g1 g2 g3=>cases U
 | opt T g1 g2=>
   have bK:=g1.1.1;have rT:∀j,j<lp.aj.length->cP kV (T.v j):=λj aH=>sV (bK.F8 h (by omega)) (by decide);have aC:nv lp T=(List.range lp.aj.length).map λj=>dB (T.v j):=rfl;have aw:kN lp (nv lp T)=some (lp.nh T.v):=by
    unfold kN;rw[aC,bm (CY hm rT),aak λj aH=>Aj aH (rT j aH)]
   have ai:=cQC h bK;show isNum (Gb lp (nv lp T))=true/\(Gb lp (nv lp T)).length<=10000;unfold Gb;rw[aw];exact⟨ai.isNum,ai.len⟩
theorem cQD{lp:bD}(h:iA lp)(hm:lp.dP=true){a:iz}(aG:bZJ lp a)(U:a.st=1):a.x.length=lp.aj.length/\a.x.all isNum=true/\∀s∈a.x,s.length<=10000:=by
 obtain⟨ag,_,dM⟩:=aG.cYC h hm U;unfold h5 at ag;simp only[cG,eh]at ag;exact⟨ag.2.1,ag.1,dM⟩
variable{p bt br ct bZp bZw bZi:Nat}{cy dd bZk:Value}{deep:Bool}{s:bZe}{cs:List eu}
theorem bZD.cQE{A:Nat->Prop}{v dv:Value}{l:List bZR}(h:bZD H A br v l){k:Nat}(ag:k<l.length)(d:List (List UInt8))(aB:bZX H A dv d)(nd:∀b,A b->b≠br):
 ∃L L',v=.slice (some ⟨br,0,none⟩) l.length l.length/\H.get br=some (.cells L (.n 5))/\L.length=l.length*5/\setCells L (k*5+4) [dv]=some L'/\bZD (H.put br (.cells L' (.n 5))) A br v (l.set k {l.getD k bWr with d:=d}):=by
 rcases h with⟨_,e⟩ | ⟨rfl,L,aq,f,a8,cg⟩
 ·rw[e]at ag;exact absurd ag (od _)
 ·have bYj:∀b y,A b->H.get b=some y->A b/\(H.put br (.cells (L.set (k*5+4) dv) (.n 5))).get b=some y:=λb y ai e=>⟨ai,by rw[cq (nd b ai)];exact e⟩;have Cl:l.getD k bWr=l[k]:=by rw[ob,hG ag];rfl
  obtain⟨dYB,cY,_⟩:=cg k ag;refine⟨L,L.set (k*5+4) dv,rfl,aq,a8.1,setCells_one (a8.lt ag (by decide)),.inr ⟨by simp,_,dX,λj=>if j=k then({l.getD k bWr with d:=d}:bZR).cells dv else f j,?_,λi hi=>?_⟩⟩
  ·rw[bWl];exact a8.set ag (by decide) dv (by rw[cY,Cl];simp[bZR.cells]) λj _ h=>by simp[h]
  ·have hi':i<l.length:=by simpa using hi
   by_cases e:i=k
   ·subst e;simp only[List.getElem_set_self,if_true];exact⟨dv,rfl,aB.imp bYj⟩
   ·simp only[List.getElem_set_ne (Ne.symm e),e,if_false];exact(cg i hi').imp λdv q=>⟨q.1,q.2.imp bYj⟩
theorem bZA.cQF(h:bZA H p cy dd deep bZi s bt br ct)(g:cl pm H){k:Nat}(ag:k<s.tree.length)(d:List (List UInt8)){dv:Value}(aB:bZX H (bYM p bt br) dv d):
 ∃L L' Hc rest,H.get p=some (.cells (cy::dd::.bool deep::.int .i64 (bZi:Int)::Hc::.slice (some ⟨br,0,none⟩) s.tree.length s.tree.length::rest) (.t bZU))/\H.get br=some (.cells L (.n 5))/\L.length=s.tree.length*5/\setCells L (k*5+4) [dv]=some L'/\
  bZA (H.put br (.cells L' (.n 5))) p cy dd deep bZi (s.bZu k d) bt br ct/\bZq pm p bt br bt br H (H.put br (.cells L' (.n 5))):=by
 obtain⟨U,aa,b3,vj,BW,bZI,ai,zq,bZY,vJ,bXI⟩:=h;obtain⟨L,L',rfl,aK,aO,aG,aS⟩:=bZY.cQE ag d aB λb ai=>ai.2.2;have dr:p≠br:=λe=>by rw[<-e,ai]at aK;cases aK
 have bYj:∀b y,bZr p bt br b->H.get b=some y->bZr p bt br b/\(H.put br (.cells L' (.n 5))).get b=some y:=λb y ai e=>⟨ai,by rw[cq ai.2.2];exact e⟩;have u:=bp.put (n:=0) (.refl g) (Nat.zero_le _) aK (by simp) (.cells L' (.n 5));refine⟨L,L',b3,_,ai,aK,aO,aG,⟨U,⟨?_,_,dX⟩,b3,_,BW,bZI,by rw[cq dr];simpa [bZe.bZu]using ai,zq.imp bYj λkz e=>?_,by simpa [bZe.bZu]using aS,vJ.imp (λb y ai e=>⟨ai,(bYj b y ai.f e).2⟩),bXI.up u⟩,⟨u.aL,u.next,λb _ h=>cq h.2.2,u.eE,.inl rfl,.inl rfl⟩⟩
 ·by_cases e:bt=br
  ·rw[e];exact⟨_,dX⟩
  ·rw[cq e];exact aa.1
 ·by_cases e2:bt=br
  ·rw[e2,aK]at e;cases e
  ·rw[cq e2];exact e
abbrev bWB:Nat:=T.cQG
end Go.Dam.C
namespace Go.Dam.C
open Go Go.Dam
variable{X:aY}{pm pm':Perm}{H H' cL H0:ah}{n p bt br ct bZp bZw bZi:Nat}{cy dd bZk:Value}{deep:Bool}{s:bZe}{cs:List eu}{l:bD}
theorem cQH{k:Nat}(hm:(⟨cs,l.rows⟩:bD).dP=false):s.look l k cs=s:=by unfold bZe.look;rw[hm];rfl
theorem cQI{k:Nat}{a:iz}(hm:(⟨cs,l.rows⟩:bD).dP=true)(aN:bZJ ⟨cs,l.rows⟩ a)(h:a.st≠1):s.look l k cs=s.bZu k a.d:=by unfold bZe.look;rw[bm hm,bWs aN,aU h]
theorem cQJ{k:Nat}{a:iz}(hm:(⟨cs,l.rows⟩:bD).dP=true)(aN:bZJ ⟨cs,l.rows⟩ a)(h:a.st=1)(af:bWt s.val (rd a.val)=true):s.look l k cs=s.bZu k a.d:=by unfold bZe.look;rw[bm hm,bWs aN,bm h,bm af]
theorem cQK{k:Nat}{a:iz}(hm:(⟨cs,l.rows⟩:bD).dP=true)(aN:bZJ ⟨cs,l.rows⟩ a)(h:a.st=1)(af:bWt s.val (rd a.val)=false)(ai:bYL l.aj a.x=none):s.look l k cs={s.bZu k a.d with val:=some (rd a.val),bZh:=⟨1,a.val,a.x,[],[]⟩}:=by
 unfold bZe.look;rw[bm hm,bWs aN,bm h,aU (by rw[af];decide),ai]
theorem cQL{k i:Nat}{a:iz}(hm:(⟨cs,l.rows⟩:bD).dP=true)(aN:bZJ ⟨cs,l.rows⟩ a)(h:a.st=1)(af:bWt s.val (rd a.val)=false)(ai:bYL l.aj a.x=some i):s.look l k cs=(s.bZu k a.d).branch k cs i (e1 a.x i):=by
 unfold bZe.look;rw[bm hm,bWs aN,bm h,aU (by rw[af];decide),ai]
theorem bZA.cXi{b3 vj BW bZI xv' vp':Value}{b:iz}{v':Option Rat}(g:cl pm H)(ge:p<=bt/\p<=br)(bXl:(∃y,H.get bt=some y)/\∃y,H.get br=some y)(ai:H.get p=some (.cells [cy,dd,.bool deep,.int .i64 (bZi:Int),b3,vj,.int .i64 s.bZh.st,aW s.bZh.val,BW,.slice none 0 0,.slice none 0 0,bZI] (.t bZU)))
 (zq:bYZ H (bZr p bt br) bt ct b3 s.todo) (bZY:bZD H (bYM p bt br) br vj s.tree) (qO:bZX H (bYM p bt br) xv' b.x) (au0:ia H vp' v'):
 bZA (H.put p (.cells [cy,dd,.bool deep,.int .i64 (bZi:Int),b3,vj,.int .i64 b.st,aW b.val,xv',.slice none 0 0,.slice none 0 0,vp'] (.t bZU))) p cy dd deep bZi {s with bZh:=b,val:=v'} bt br ct/\
  bZq pm p bt br bt br H (H.put p (.cells [cy,dd,.bool deep,.int .i64 (bZi:Int),b3,vj,.int .i64 b.st,aW b.val,xv',.slice none 0 0,.slice none 0 0,vp'] (.t bZU))):=by
 have u:=bp.put (n:=0) (.refl g) (Nat.zero_le _) ai (by simp) (.cells [cy,dd,.bool deep,.int .i64 (bZi:Int),b3,vj,.int .i64 b.st,aW b.val,xv',.slice none 0 0,.slice none 0 0,vp'] (.t bZU));obtain⟨A,nd⟩:=bZa (H.put p (.cells [cy,dd,.bool deep,.int .i64 (bZi:Int),b3,vj,.int .i64 b.st,aW b.val,xv',.slice none 0 0,.slice none 0 0,vp'] (.t bZU)));rw[<-nd]at u|-;have bYj:∀b y,bZr p bt br b->H.get b=some y->bZr p bt br b/\A.get b=some y:=λb y ai e=>⟨ai,by rw[nd,cq ai.1];exact e⟩;have hex:∀b,(∃y,H.get b=some y)->∃y,A.get b=some y:=λb ⟨y,bu⟩=>by
  by_cases e:b=p
  ·rw[nd,e];exact⟨_,dX⟩
  ·exact⟨y,by rw[nd,cq e];exact bu⟩
 refine⟨⟨ge,⟨hex _ bXl.1,hex _ bXl.2⟩,b3,vj,xv',vp',by rw[nd];exact dX,zq.imp bYj λL e=>?_,bZY.imp (λb y ai e=>⟨ai,(bYj b y ai.f e).2⟩) λL e=>?_,qO.imp (λb y ai e=>⟨ai,(bYj b y ai.f e).2⟩),au0.up u⟩,⟨u.aL,u.next,λb _ h=>by rw[nd,cq h.1],u.eE,.inl rfl,.inl rfl⟩⟩
 ·rw[nd,cq (λe2=>by rw[e2,ai]at e;cases e)];exact e
 ·rw[nd,cq (λe2=>by rw[e2,ai]at e;cases e)];exact e
theorem cXj{z:Int}(U:-bZz<=(z:Rat))(aa:(z:Rat)<=bZz):ca (z:Rat)=true:=by
 have h:=sC (l:=dB (z:Rat)) (bH (cYE (bQA U aa)) (by decide));rwa [bQz (bQA U aa)]at h
theorem cQM{v:Rat}(U:-bZz<=v)(aa:v<=bZz):-bZz<=((v.floor:Int):Rat)/\((v.floor:Int):Rat)<=bZz:=by
 refine⟨?_,Rat.le_trans (Rat.floor_le v) aa⟩;rw[bUo]at U|-;exact Rat.intCast_le_intCast.2 (Rat.le_floor_iff.2 U)
theorem cQN{v:Rat}(U:-bZz<=v)(aa:v<=bZz)(aw:v.den≠1):-bZz<=((v.floor+1:Int):Rat)/\((v.floor+1:Int):Rat)<=bZz:=by
 constructor
 ·rw[bUo]at U|-;have:=Rat.le_floor_iff.2 U;exact Rat.intCast_le_intCast.2 (by omega)
 ·rw[bVx]at aa|-;have aq:((v.floor:Int):Rat)<((10^20:Int):Rat):=(by have:=cYF aw;grind);have aq:=Rat.intCast_lt_intCast.1 aq;exact Rat.intCast_le_intCast.2 (by omega)
theorem cQO(al:bYH X)(g:cl pm H)(ey:pm.lo<=p)(hm:bWu l)(h:bZA H p cy dd deep bZi s bt br ct)(g0:cl pm H0)(cXk:H0.next<=p)(u0:bp pm p H0 H)(aO:bZE H0 0 (.agg #[cy,dd]) l){k:Nat}(ag:k<s.tree.length)(hW:bYi l cs)(UG:bZP H (bZr p bt br) bZk cs.length 5 (bYg cs))(Fh:∀i,i<l.rows.length->(l.row i).cM.length<=1000)(aF:s.tree.length<=800)(aS:s.todo.length<=800)(aw:∀w,s.val=some w->ca w=true):
 Call X pm F.bXD [.pointer (some ⟨p,0,none⟩),.agg #[.int .i64 (k:Int),bZk]] H λ_ H'=>∃bZp bZw bXa,bZA H' p cy dd deep bZi (s.look l k cs) bZp bZw bXa/\bZq pm p bt br bZp bZw H H':=by
 refine Call.h6 al.bXD rfl λQ bU=>?_;obtain⟨cb,cp,e⟩:=UG.form;subst e;obtain⟨_,_,e,oJ,qh⟩:=id aO;cases e;obtain⟨rb,azO,e,_⟩:=id qh;subst e;obtain⟨GR,cZh,e,_⟩:=id oJ;subst e;have wu:=hW.bQy hm.s;have cQP:∀{H':ah} {bZp bZw:Nat},bZq pm p bt br bZp bZw H H'->Ext H0 H':=λk b y e=>by
  have ai:=g0.lt e;have aC:=h.ge;have lp:=h.lt g;exact(k.get b (by omega) ⟨by omega,by omega,by omega⟩).trans ((u0.get b (by omega)).trans e)
 obtain⟨cO,Cu⟩:=bZa (H.next);obtain⟨H1,cw⟩:=bZa (H.new (.cells [.int .i64 (k:Int),.slice cb cs.length cp] (.t bXH)));have av:=bZv g cw;have g1:=av.aL;have n1:=bV cw Cu;have h4:=bZQ cw Cu;have bVG:=h.k g av;obtain⟨cQq,cQr,cQs⟩:=h.lt g;obtain⟨_,_,b3,vj,BW,bZI,gN,_⟩:=id bVG;obtain⟨z,bl⟩:=bZa (H1.next);have bE:K pm H1 (H1.up 17):=(K.refl g1).up 17;have mS:=λj=>(by rw[bl];exact g1.none j:(H1.up 17).get (z+j)=none);have FA:=(by rw[bl];exact g1.fo:(H1.up 17).get z=none);obtain⟨fL,fc⟩:=bZa ((H1.up 17).put (z+8) (.cells [.int .i64 0,.string ⟨#[]⟩,.slice none 0 0,.slice none 0 0,.slice none 0 0] (.t bWB)));have hD:K pm H1 fL:=by rw[fc];exact bp.fill bE (by omega) (mS 8) (by show z+8<H1.next+17;omega) _
 have zV:=hD.aL;have oP:∀j,j≠8->fL.get (z+j)=none:=λj aH=>by rw[fc,cq (by omega)];exact mS j
 have bQG:fL.get (z+8)=some (.cells [.int .i64 0,.string ⟨#[]⟩,.slice none 0 0,.slice none 0 0,.slice none 0 0] (.t bWB)):=by rw[fc];exact dX
 have TG:fL.next=z+17:=by rw[fc,bl];rfl
 have cQQ:bZE fL 0 (.agg #[.slice cb cs.length cp,.slice rb l.rows.length azO]) ⟨cs,l.rows⟩:=(show bZE H 0 _ ⟨cs,l.rows⟩ from⟨_,_,rfl,UG.e,qh.ext λb y e=>(u0.get b (by have:=g0.lt e;omega)).trans e⟩).ext ((av.trans hD).ext g);have d1:gp [z+8] [cO]=true:=kS (by omega);have d2:gp [z+8] [p]=true:=kS (by omega);have cXl:=λq=>jh (lo:=pm.lo) (ok:=pm.ok) (o:=q) (b:=z+8) (by have:=g1.lo;omega);simp[g.pick,g.make,ptr,<-Cu,<-cw,-bUz];refine eg.of g1.lo rfl ?_;rw[<-bl];simp[dt,mS,FA,h4,gN,fill,c5,Perm.make,Perm.pick,ptr,<-fc,-bUz];refine bZx zV (vs:=[.agg #[.slice cb cs.length cp,.slice rb l.rows.length azO]]) (by simp[oP]) (λpm' bS=>cUk al.tobQp bS cQQ wu Fh) ?_;rintro cB aJ aI aa;have g2:=aI.aL;have cQn:=aI.next;have e0:=K.trans hD aI;have z2:=aI.some zV bQG;have ayO:∀j,j<17->j≠8->aJ.get (z+j)=none:=λj aH j8=>(aI.get _ (by omega)).trans (oP j j8)
 rcases aa with⟨x9,rfl⟩ | ⟨x9,dYC,a,u,rfl,_,_,hu,aG⟩
 ·obtain⟨bN,iO⟩:=bZa (aJ.put (z+8) (.cells [.int .i64 0,.string ⟨#[]⟩,.slice none 0 0,.slice none 0 0,.slice none 0 0] (.t bWB)));have aQ:K pm H1 bN:=by rw[iO];exact bp.put e0 (by omega) z2 (by simp) _
  simp[ayO,z2,setCells,cXl,<-iO,dx,dm,ez,gI,d1,d2,show cO<z by omega,show p<z by omega,-cZi];refine⟨by rw[iO,cq (by omega)];exact ayO 16 (by decide) (by decide),?_⟩;refine bU _ _ _ ?_;simp;rw[cQH x9];exact⟨bt,br,⟨ct,bVG.k g1 aQ⟩,.bXm (av.trans aQ)⟩
 ·obtain⟨df,dW,gZ,rfl,kR,jw,jP⟩:=id hu;obtain⟨PI,PJ,ao,_⟩:=kR.1.ex;obtain⟨PK,PL,e2,_⟩:=jw.1.ex;obtain⟨PM,PN,bd,_⟩:=jP.1.ex;subst ao e2 bd;obtain⟨bN,iO⟩:=bZa (aJ.put (z+8) (.cells [.int .i64 a.st,aW a.val,.slice PI a.x.length PJ,.slice PK a.d.length PL,.slice PM a.r.length PN] (.t bWB)));have aQ:K pm H1 bN:=by rw[iO];exact bp.put e0 (by omega) z2 (by simp) _
  have g3:=aQ.aL;have jH:=av.trans aQ;have IK:bN.next=aJ.next:=by rw[iO];rfl
  have cXm:bN.get (z+8)=some (.cells [.int .i64 a.st,aW a.val,.slice PI a.x.length PJ,.slice PK a.d.length PL,.slice PM a.r.length PN] (.t bWB)):=by rw[iO];exact dX
  have cXn:bN.get cO=some (.cells [.int .i64 (k:Int),.slice cb cs.length cp] (.t bXH)):=aQ.some g1 h4;have bXo:=bVG.k g1 aQ;have eT:=bXo.lt g3;have cXo:∀b,z<=b->bZr p bt br b:=λb ai=>⟨by omega,by omega,by omega⟩;have cXp:∀{v:Value} {xs:List (List UInt8)},bZM aJ fL.next v xs->bZX bN (bYM p bt br) v xs:=λc9=>by
   have gJ:=c9.put (c:=z+8) (by omega) (.cells [.int .i64 a.st,aW a.val,.slice PI a.x.length PJ,.slice PK a.d.length PL,.slice PM a.r.length PN] (.t bWB));rw[<-iO]at gJ;exact gJ.p.imp λb y ai e=>⟨⟨by omega,(cXo b (by omega)).2⟩,e⟩
  have JB:=cXp kR;have jB:=cXp jw;have cQR:bZr p bt br cO:=⟨by omega,by omega,by omega⟩;have cQS:=cXo (z+8) (by omega);have bWx:K pm bN (bN.up 11):=(K.refl g3).up 11;have cQT:=bWx.aL;obtain⟨L,L',Hc,rest,YS,abj,cXe,uz,bXK,bWV⟩:=(bXo.k g3 bWx).cQF cQT ag a.d (dv:=.slice PK a.d.length PL) (jB.imp λb y ai e=>⟨ai,bWx.some g3 e⟩);obtain⟨zq1,nZ⟩:=bZa ((bN.up 11).put br (.cells L' (.n 5)));rw[<-nZ]at bXK bWV;have g4:=bWV.aL;have bVH:=(bZq.bXm (p:=p) (bt:=bt) (br:=br) bWx).trans bWV;have aGm:=bVH.next;have cZj:=bVH.some g3 cQS cXm;have cQU:=bVH.some g3 cQR cXn;have cXq:bZq pm p bt br bt br H zq1:=(bZq.bXm jH).trans bVH;simp[ayO,z2,setCells,cXl,<-iO,dx,dm,ez,gI,d1,d2,show cO<z by omega,show p<z by omega,-bUA];refine⟨by rw[iO,cq (by omega)];exact ayO 16 (by decide) (by decide),?_⟩;refine eg.of g3.lo rfl ?_;obtain⟨y,bu⟩:=bZa (bN.next);have iy:=λj=>(by rw[bu];exact g3.none j:(bN.up 11).get (y+j)=none);have bQZ:=(by rw[bu];exact g3.fo:(bN.up 11).get y=none);have bVF:=YS;simp only[zY]at bVF abj;have cQV:=λq=>jh (lo:=pm.lo) (ok:=pm.ok) (o:=q) (b:=br) (by have:=bXo.ge;omega);rw[<-bu];simp[dt,iy,bQZ,bVF,cXn,cXm,ag,abj,uz,cQV,<-nZ,dx,dm,show cO<y by omega,show p<y by omega,show z+8<y by omega,show br<y by omega,-bUA];simp[cZj,-bUB];by_cases gz:a.st=1
  ·obtain⟨aD4,TJ⟩:=cXh wu x9 aG gz;obtain⟨cZk,cXr,xs⟩:=cQD wu x9 aG gz;have cQW:ca (rd a.val)=true:=sC TJ;simp[gz,cZj,-cZl,-cZm];refine aR.bZb (vs:=[aW a.val]) (bQK al g4 (by omega) aD4) ?_;rintro aCz cV ⟨cd,bVB⟩;have g5:=cd.aL;have bXb:=bXK.k g4 cd;have cZn:=cXq.trans (bZq.bXm (p:=p) (bt:=bt) (br:=br) cd);have cXs:=cd.some g4 cZj;have cQX:=cd.some g4 cQU;have cXt:bZX cV (bYM p bt br) (.slice PI a.x.length PJ) a.x:=JB.imp λb y ai e=>⟨ai,cd.some g4 (bVH.some g3 ai.f e)⟩;obtain⟨_,_,cXu,cXv,cXw,cXx,aHw,cQY,cQZ,dZa,cXy⟩:=id bXb;have cont:bWt s.val (rd a.val)=false->∀l',a7 0 l'=some (.pointer (some ⟨p,0,none⟩))->a7 3 l'=some (.pointer (some ⟨cO,0,none⟩))->a7 5 l'=some (.pointer (some ⟨z+8,0,none⟩))->a7 7 l'=some aCz->wp X pm (.code C.bXL) l' cV [] Q:=λMn l' c0 bUC lf dO=>by
    have dZb:kI cV (.slice GR l.aj.length cZh) l.aj:=(oJ.imp (cQP cZn) λ_ _ _ h=>h).sl;simp[c0,lf,cXs,-cZo,-cZp];refine aR.bZb (vs:=[.pointer (some ⟨p,0,none⟩),.slice PI a.x.length PJ]) (cQb al g5 aHw dZb cXt.1 (by rw[cZk];exact hW.len) cXr xs (by have:=hm.s.n;omega)) ?_;rintro _ ep ⟨cv,rfl⟩;have g6:=cv.aL;have cZq:=bXb.k g5 cv;have cZr:=cZn.trans (bZq.bXm (p:=p) (bt:=bt) (br:=br) cv);have bWT:=cv.some g5 cXs;have aFW:=cv.some g5 cQX;have cXz:bZX ep (bYM p bt br) (.slice PI a.x.length PJ) a.x:=cXt.imp λb y ai e=>⟨ai,cv.some g5 e⟩;have h1:=cZq.lt g6;have aEt:=cv.some g5 aHw;have bUk:=cZr.next;obtain⟨mi,azu⟩:=bZa (ep.next);obtain⟨yC,rfl,KT⟩:=id bVB;have dZc:=bVB.up cv;have bWv:=λq=>jh (lo:=pm.lo) (ok:=pm.ok) (o:=q) (b:=p) ey;have dYD:=g6.lt bWT;have bUa:=g6.lt aFW
    cases Lj:bYL l.aj a.x with
    | none=>
      have bYt:K pm ep (ep.up 14):=(K.refl g6).up 14;have RA:=λj=>(by rw[azu];exact g6.none j:(ep.up 14).get (mi+j)=none);have bVE:=(by rw[azu];exact g6.fo:(ep.up 14).get mi=none);obtain⟨cZs,bVI⟩:=bZa ((ep.up 14).put p (.cells [.slice GR l.aj.length cZh,.slice rb l.rows.length azO,.bool deep,.int .i64 (bZi:Int),cXu,cXv,.int .i64 (s.bZu k a.d).bZh.st,aW (s.bZu k a.d).bZh.val,cXw,.slice none 0 0,.slice none 0 0,.pointer (some ⟨yC,0,none⟩)] (.t bZU)));obtain⟨ge,bXl,_⟩:=id cZq;have bWC:=bZA.cXi (s:=s.bZu k a.d) (b:=(s.bZu k a.d).bZh) (vp':=.pointer (some ⟨yC,0,none⟩)) (v':=some (rd a.val)) (xv':=cXw) bYt.aL ge ⟨bXl.1,bXl.2⟩ (bYt.some g6 aEt) ((cQY.imp (λb y ai e=>⟨ai,(cv.trans bYt).some g5 e⟩) λL e=>(cv.trans bYt).some g5 e)) ((cQZ.imp (λb y ai e=>⟨ai,(cv.trans bYt).some g5 e⟩) λL e=>(cv.trans bYt).some g5 e)) (dZa.imp λb y ai e=>⟨ai,(cv.trans bYt).some g5 e⟩) (dZc.up bYt);rw[<-bVI]at bWC;have g7:=bWC.2.aL;obtain⟨dZd,dZe,dYE,dYF,cXA,dYG,aEv,dZf,dZg,dYH,dZh⟩:=id bWC.1;have cZt:=bZC bVI;rw[cZt]at aEv;cases aEv;obtain⟨dYI,cXB⟩:=bZa (cZs.put p (.cells [.slice GR l.aj.length cZh,.slice rb l.rows.length azO,.bool deep,.int .i64 (bZi:Int),cXu,cXv,.int .i64 1,aW a.val,.slice PI a.x.length PJ,.slice none 0 0,.slice none 0 0,.pointer (some ⟨yC,0,none⟩)] (.t bZU)));have bWy:=bZA.cXi (b:=⟨1,a.val,a.x,[],[]⟩) (vp':=.pointer (some ⟨yC,0,none⟩)) (v':=some (rd a.val)) (xv':=.slice PI a.x.length PJ) g7 dZd dZe cZt dZf dZg (cXz.imp λb y ai e=>⟨ai,bWC.2.some bYt.aL ai.f (bYt.some g6 e)⟩) dZh;rw[<-cXB]at bWy;have Ft:gp [p] [z+8]=true:=kS (by omega);simp[bQL];refine eg.of g6.lo rfl ?_;rw[<-azu];have oP:∀j,cZs.get (mi+j)=none:=λj=>by rw[bVI,cq (by omega)];exact RA j
      have dZi:cZs.get (z+8)=some (.cells [.int .i64 a.st,aW a.val,.slice PI a.x.length PJ,.slice PK a.d.length PL,.slice PM a.r.length PN] (.t bWB)):=by rw[bVI,cq (by omega)];exact bWT
      simp[dt,RA,bVE,c0,lf,dO,bWT,fill,c5,aEt,bWv,setCells,<-bVI,oP,cZt,<-cXB,dx,dm,ez,Ft,show z+8<mi by omega,show p<mi by omega];refine bU _ _ _ ?_;simp;rw[cQK x9 aG gz Mn Lj];exact⟨bt,br,⟨ct,bWy.1⟩,(cZr.trans (bZq.bXm bYt)).trans (bWC.2.trans bWy.2)⟩
    | some i=>
      obtain⟨dZj,dZk,dZl⟩:=cYH Lj;have bWD:i<cs.length:=by rw[hW.len];exact dZj
      obtain⟨cXC,cXD⟩:=cYI hm.s hW x9 aG gz bWD dZk;obtain⟨_,_,ex,mK⟩:=cXz.1.ex;cases ex;obtain⟨bx,cQe,cQf,cQg,w,bXl,f2,f3,f4,bVJ,f5,rfl⟩:=mK i (by rw[cZk];exact bWD);subst bXl;have As:e1 a.x i=rd bVJ:=by simp[e1,List.getD,f5]
      have J4:=fR f5;have bYt:K pm ep (ep.up 10):=(K.refl g6).up 10;have dZm:=bYt.aL;have RA:=λj=>(by rw[azu];exact g6.none j:(ep.up 10).get (mi+j)=none);have bVE:=(by rw[azu];exact g6.fo:(ep.up 10).get mi=none);have tB:i<a.x.length:=by rw[cZk];exact bWD
      simp[bQL];refine eg.of g6.lo rfl ?_;rw[<-azu];simp[dt,RA,bVE,c0,bUC,lf,aFW,bWT,cX,c5,tB,f2,f3,f4];refine bZx dZm (vs:=[aW bVJ]) (by simp[RA]) (λpm' bS=>bQK al bS (by have:=xs bVJ J4;omega) (hz.1 cXr bVJ J4)) ?_;rintro cXA hM dJ acZ;have g7:=dJ.aL;have axv:=K.trans bYt dJ;have ot:=dJ.res g6;rw[<-azu]at ot;have bWC:=cZq.k g6 axv;have cXE:=cZr.trans (bZq.bXm (p:=p) (bt:=bt) (br:=br) axv);have dZn:=cXE.cYL g UG λ_ _ _ h=>h;rw[<-As]at acZ;have IL:ca (e1 a.x i)=true:=by rw[As];exact sC (xs bVJ J4)
      obtain⟨dZo,dZp⟩:=cQM cXC cXD;obtain⟨dZq,dZr⟩:=cQN cXC cXD dZl;have bUw:=cXj dZq dZr;rw[Rat.intCast_add]at bUw;simp;have dZs:=cQk (pm:=⟨pm.lo,pm.ok,none⟩) al (g7.perm rfl g7.lo) ey bWC (k:=k) dZn (by simpa [bZe.bZu]using ag) bWD (by have:=hm.s.n;have:=hW.len;omega) acZ IL (cXj dZo dZp) bUw (by simp[bZe.bZu];omega) (by simp[bZe.bZu];omega);refine g'.fixed (vs:=[.pointer (some ⟨p,0,none⟩),.agg #[.int .i64 (k:Int),.slice cb cs.length cp],.int .i64 (i:Int),cXA]) (by simp[ot]) (by simp) (by simp) rfl dZs ?_;rintro abn ns ⟨dZt,dZu,dZv,bWy,bUD⟩;have bUD:=bUD.perm (pm':=pm) g.num (by have:=bUD.next;have:=g7.lo;omega);simp[dx,dm,eJ,ez,gI,show z+8<mi by omega,show cO<mi by omega,show bx<mi by have:=g6.lt f2;omega];refine bU _ _ _ ?_;simp;rw[cQL x9 aG gz Mn Lj];exact⟨dZt,dZu,⟨dZv,bWy⟩,cXE.trans bUD⟩
   simp[aHw,-bVK,-cZu,-bXL]
   cases mq:s.val with
   | none=>
     have dZw:cXx=.pointer none:=by simpa [bZe.bZu,mq,ia]using cXy
     subst dZw;simp[zWb,-bVK,-bXL];refine aR.not (by simp) ?_;simp[zWb,-bXL];exact cont (by rw[mq];rfl) _ (by simp) (by simp) (by simp) (by simp)
   | some w=>
     have hw:c1 cV cXx w:=by simpa [bZe.bZu,mq,ia]using cXy
     obtain⟨GR,rfl,aaw⟩:=id hw;simp[aHw,-bVK,-bXL];refine aR.bZb (vs:=[aCz,.pointer (some ⟨GR,0,none⟩)]) (ud al.toOb g5 bVB.of hw.of cQW (aw w mq)) ?_;rintro _ _ ⟨rfl,rfl⟩;by_cases af:w<=rd a.val
     ·simp[rz,show ¬rd a.val<w from hA.2 af,-bXL];refine bU _ _ _ ?_;simp;rw[cQJ x9 aG gz (by rw[mq];simp[bWt,af])];exact⟨bt,br,⟨ct,bXb⟩,cZn⟩
     ·simp[rz,show rd a.val<w from Rat.not_le.1 af,-bXL];exact cont (by rw[mq];simp[bWt,af]) _ (by simp) (by simp) (by simp) (by simp)
  ·simp[gz,-bUB];refine bU _ _ _ ?_;simp;rw[cQI x9 aG gz];exact⟨bt,br,⟨ct,bXK⟩,cXq⟩
end Go.Dam.C
namespace Go.Dam.C
open Go Go.Dam
section
variable{α:Type}{f:α->Option α}
theorem cXF{a:α}(h:Ends f a):∃k b,oT f k a=some b/\f b=none:=by
 obtain⟨k,ag,C8⟩:=h.least
 cases k with
 | zero=>cases ag
 | succ j=>
   have aH:=C8 j (by omega)
   cases e:oT f j a with
   | none=>exact absurd e aH
   | some b=>
     refine⟨j,b,e,?_⟩
     cases e2:f b with
     | none=>rfl
     | some c=>
       have:=bUl e e2;rw[ag]at this;cases this
theorem cZv{G:α->Prop}(bA:∀a b,G a->f a=some b->G b):∀{k:Nat} {a b:α},G a->oT f k a=some b->G b
 | 0,a,b,h,e=>by cases e;exact h
 | k+1,a,b,h,e=>by
   rw[oT]at e
   cases e2:f a with
   | none=>rw[e2]at e;cases e
   | some c=>rw[e2]at e;exact cZv bA (bA a c h e2) e
end
theorem dZx{lp:bD}(h:iA lp)(hm:lp.dP=true):∃a,bZJ lp a:=by
 have R:=bQs h hm;obtain⟨k,Uf,ao,e2⟩:=cXF (R.g1 _ R.s1).2.2;have cg:bVw lp Uf:=cZv R.n1 R.s1 ao;unfold rO at e2
 cases hw:uC lp.aX Uf with
 | some a=>
   rw[hw]at e2;simp only at e2
   cases c9:sP lp.aX Uf a (off lp.aX Uf.v (Uf.rows a)) with
   | some c=>rw[c9]at e2;cases e2
   | none=>exact⟨_,.inf Uf a cg hw c9⟩
 | none=>
   have g5:=R.s2 Uf cg hw;obtain⟨j,o5,f1,f2⟩:=cXF (R.g2 _ g5).2.2;have g6:bWq lp o5:=cZv R.n2 g5 f1;unfold pE at f2
   cases he:enters lp.aX lp.cs o5 with
   | none=>exact⟨_,.opt o5 g6 he⟩
   | some col=>
     rw[he]at f2;simp only at f2
     cases bc:(fv lp.aX o5 col (gl lp.aX lp.cs o5 col) lp.aX.m).gH with
     | some q=>rw[bc]at f2;cases f2
     | none=>exact⟨_,.Q1 o5 col g6 he bc⟩
theorem dZy{lp:bD}(h:iA lp)(hm:lp.dP=true):bZJ lp (bZT lp):=by
 obtain⟨a,aN⟩:=dZx h hm;rw[bWs aN];exact aN
structure bWb(l:bD)(s:bZe):Prop extends bYr l s where
 v:∀w,s.val=some w->ca w=true
 t:s.todo.length<=s.tree.length
theorem bWb.look{l:bD}{s:bZe}(hm:bWu l)(h:bWb l s){k:Nat}{cs:List eu}(af:bYi l cs):bWb l (s.look l k cs)/\((s.look l k cs).tree.length=s.tree.length/\(s.look l k cs).todo.length=s.todo.length∨(s.look l k cs).tree.length=s.tree.length+2/\(s.look l k cs).todo.length=s.todo.length+2):=by
 have aB:∀d,bWb l (s.bZu k d):=λd=>⟨h.tobYr.bZu,h.v,by simpa [bZe.bZu]using h.t⟩;unfold bZe.look;by_cases x9:(⟨cs,l.rows⟩:bD).dP=true
 ·rw[bm x9];have wu:=af.bQy hm.s;have aG:=dZy wu x9;by_cases gz:(bZT ⟨cs,l.rows⟩).st=1
  ·rw[bm gz];split
   ·exact⟨aB _,.inl ⟨by simp[bZe.bZu],rfl⟩⟩
   ·split
    ·exact⟨⟨⟨(aB _).td⟩,λw e=>by cases e;exact sC (cXh wu x9 aG gz).2,(aB _).t⟩,.inl ⟨by simp[bZe.bZu],rfl⟩⟩
    ·rename_i i ai;obtain⟨cR,b9,fK⟩:=cYH ai;have bWD:i<cs.length:=by rw[af.len];exact cR
     obtain⟨cS,bL⟩:=cYI hm.s af x9 aG gz bWD b9;refine⟨⟨(aB _).tobYr.branch af bWD b9 cS bL fK,h.v,?_⟩,.inr ⟨by simp[bZe.branch,bZe.bZo,bZe.bZu],by simp[bZe.branch,bZe.bZo,bZe.bZu]⟩⟩;have:=h.t;simp[bZe.branch,bZe.bZo,bZe.bZu];omega
  ·rw[aU gz];exact⟨aB _,.inl ⟨by simp[bZe.bZu],rfl⟩⟩
 ·rw[aU x9];exact⟨h,.inl ⟨rfl,rfl⟩⟩
theorem bWb.del{l:bD}{s:bZe}(h:bWb l s){k:Nat}(ag:k<s.todo.length):bWb l (s.del k):=⟨h.tobYr.del,h.v,by
 have:=h.t;have e:(s.todo.eraseIdx k).length=s.todo.length-1:=by rw[List.length_eraseIdx,bm ag]
 show(s.todo.eraseIdx k).length<=s.tree.length;omega⟩
end Go.Dam.C
namespace Go.Dam.C
open Go Go.Dam
variable{X:aY}{pm pm':Perm}{H H' cL H0:ah}{n p bt br ct bZp bZw bZi:Nat}{cy dd bZk:Value}{deep:Bool}{s iQ:bZe}{cs:List eu}{l:bD}
theorem bYZ.form{A:Nat->Prop}{v:Value}{l:List (Nat×List eu)}(h:bYZ H A bt ct v l):∃base cap,v=.slice base l.length cap:=by
 rcases h with⟨rfl,rfl,_⟩ | ⟨rfl,_⟩
 ·exact⟨_,_,rfl⟩
 ·exact⟨_,_,rfl⟩
theorem bZD.form{A:Nat->Prop}{v:Value}{l:List bZR}(h:bZD H A br v l):∃base,v=.slice base l.length l.length:=by
 rcases h with⟨rfl,rfl⟩ | ⟨rfl,_⟩
 ·exact⟨_,rfl⟩
 ·exact⟨_,rfl⟩
theorem dZz(al:bYH X)(g:cl pm H)(ey:pm.lo<=p)(hm:bWu l)(h:bZA H p cy dd deep bZi iQ bt br ct)(g0:cl pm H0)(cXk:H0.next<=p)(u0:bp pm p H0 H)(aO:bZE H0 0 (.agg #[cy,dd]) l)(Fh:∀i,i<l.rows.length->(l.row i).cM.length<=1000)(dYJ:bZi<=300)(ao:iQ.todo=[])(e2:iQ.tree=[])(bd:iQ.val=none):
 Call X pm F.bXE [.pointer (some ⟨p,0,none⟩)] H λr H'=>∃bZf b bZp bZw bXa,bZL l deep bZi (iQ.bZo l.aj) bZf b/\r=.bool b/\bZA H' p cy dd deep bZi bZf bZp bZw bXa/\bp pm p H H':=by
 refine Call.h6 al.bXE rfl λQ bU=>?_;have cZw:=h.lt g;have BH:=h.ge;obtain⟨_,_,e,oJ,qh⟩:=id aO;cases e;have hb:bZP H (bZr p bt br) cy l.aj.length 5 (bYg l.aj):=oJ.p.imp (λb y _ e=>by
  have:=g0.lt e;exact⟨⟨by omega,by omega,by omega⟩,(u0.get b (by omega)).trans e⟩) λ_ _ _ h=>h
 obtain⟨_,_,b3,vj,BW,bZI,ai,_⟩:=id h;simp[ai,-cZx];refine aR.bZb (vs:=[.pointer (some ⟨p,0,none⟩),cy]) (bQE al g ey h hb (by rw[e2];simp) (by rw[ao];simp)) ?_;rintro b4 H1 ⟨dZA,Pr,dZB,rfl,bVG,cXG⟩;have g1:=cXG.aL;have fQ:=cXG.up BH.1 BH.2 cZw.1;simp[-cZy,-cZz]
 refine hv.of (σ:=bZe×Nat×Nat×Nat) (λ_=>[(0,.pointer (some ⟨p,0,none⟩))]) (λq H'=>bWb l q.1/\bZA H' p cy dd deep bZi q.1 q.2.1 q.2.2.1 q.2.2.2/\bp pm p H H'/\q.1.tree.length<=bZi+2/\∀bZf b,bZL l deep bZi q.1 bZf b->bZL l deep bZi (iQ.bZo l.aj) bZf b) (λq=>2*(bZi+3-q.1.tree.length)+q.1.todo.length) (iQ.bZo l.aj,dZA,Pr,dZB) (by simp)
  ⟨⟨(bYr.mk (by rw[ao];simp)).bZo hm.node,by simp[bZe.bZo,bd],by simp[bZe.bZo,ao,e2]⟩,bVG,fQ,by simp[bZe.bZo,e2],λ_ _ h=>h⟩ ?_
 rintro⟨s,bWU,Ps,cZA⟩ aJ ⟨hi,bWW,fm,aF9,an⟩;simp only at hi bWW aF9 an;have g2:=fm.aL;obtain⟨acN,_,dYK,dYL,dYM,dYN,yH,dZC,dZD,_⟩:=id bWW;obtain⟨fA,av7,rfl⟩:=dZC.form;obtain⟨rb,rfl⟩:=dZD.form;have cJ:=bWW.lt g2;have mo:=fm.next;by_cases aS:s.todo=[]
 ·simp[yH,aS];refine eg.of g2.lo rfl ?_;simp[dt,g2.none,g2.fo,yH,dx,dm,cJ.1];refine bU _ _ _ ?_;simp;have aB:=bZL.done (l:=l) (deep:=deep) (m:=bZi) s aS;by_cases hle:s.tree.length<=bZi
  ·rw[bZK hle]at aB;exact⟨s,.inr ⟨an _ _ aB,hle,⟨bWU,Ps,cZA,bWW.k g2 ((K.refl g2).up 11)⟩,fm.k ((K.refl g2).up 11) (by omega)⟩⟩
  ·rw[bYy hle]at aB;exact⟨s,.inl ⟨an _ _ aB,by omega,⟨bWU,Ps,cZA,bWW.k g2 ((K.refl g2).up 11)⟩,fm.k ((K.refl g2).up 11) (by omega)⟩⟩
 ·have nR:0<s.todo.length:=bXr.2 aS;simp[yH,nR,-bUE];refine eg.of g2.lo rfl ?_;have bE:K pm aJ (aJ.up 10):=(K.refl g2).up 10;have g3:=bE.aL;have bXo:=bWW.k g2 bE;have fu:bp pm p H (aJ.up 10):=fm.k bE (by omega);by_cases hle:bZi<s.tree.length
  ·simp[dt,g2.none,g2.fo,yH,dx,dm,cJ.1,hle,-bUE];refine bU _ _ _ ?_;simp;exact⟨s,an _ _ (.bYp s aS hle),⟨bWU,Ps,cZA,bXo⟩,fu⟩
  ·simp[dt,g2.none,g2.fo,yH,dx,dm,cJ.1,hle,-cZB];refine aR.bZb (vs:=[.pointer (some ⟨p,0,none⟩)]) (cUN al g3 ey bXo aS (by have:=hi.t;omega)) ?_;rintro _ cp ⟨x,bZk,az,rfl,UG,bXK,bWV⟩;have g4:=bWV.aL;have eX:=fu.trans (bWV.up acN.1 acN.2 (by have:=cJ.1;show p<aJ.next+10;omega));have sJ:bYh deep s.todo.length<s.todo.length:=by unfold bYh;split<;>omega
   obtain⟨q1,Av⟩:=hi.td x (fR az);have cXH:=hi.del sJ;have rh:(s.del (bYh deep s.todo.length)).todo.length=s.todo.length-1:=by
    show(s.todo.eraseIdx _).length=_;rw[List.length_eraseIdx,bm sJ]
   have aGm:=eX.next;simp;refine aR.bZb (vs:=[.pointer (some ⟨p,0,none⟩),.agg #[.int .i64 (x.1:Int),bZk]]) (cQO al g4 ey hm bXK g0 cXk (u0.trans eX) aO (k:=x.1) q1 Av UG Fh (by show s.tree.length<=800;omega) (by have:=hi.t;omega) cXH.v) ?_;rintro _ cV ⟨bQX,bQY,cYZ,bXb,bYs⟩;have LO:=bXK.ge;have hP:=bXK.lt g4;have hl:=eX.trans (bYs.up LO.1 LO.2 hP.1);obtain⟨dZE,hlen⟩:=cXH.look hm (k:=x.1) Av;have dYO:(s.del (bYh deep s.todo.length)).tree.length=s.tree.length:=rfl;simp;refine rF.of ((s.del (bYh deep s.todo.length)).look l x.1 x.2,bQX,bQY,cYZ) ?_ (by simp) ⟨dZE,bXb,hl,?_,λbZf=>⟨λh=>an bZf false (.step s bZf false x az (by omega) h),λh=>an bZf true (.step s bZf true x az (by omega) h)⟩⟩
   ·show 2*(bZi+3-((s.del (bYh deep s.todo.length)).look l x.1 x.2).tree.length)+((s.del (bYh deep s.todo.length)).look l x.1 x.2).todo.length<2*(bZi+3-s.tree.length)+s.todo.length;omega
   ·show((s.del (bYh deep s.todo.length)).look l x.1 x.2).tree.length<=bZi+2;omega
end Go.Dam.C
namespace Go.Dam.C
open Go Go.Dam
variable{X:aY}{pm pm':Perm}{H H' cL H0:ah}{n:Nat}{deep:Bool}{l:bD}
def bVL:bZe:=⟨[],[],⟨2,[],[],[],[]⟩,none⟩
def bZZ(k:Int):Nat:=if 0<k then min 300 k.toNat else 300
theorem dZF{k:Int}:bZZ k<=300:=by unfold bZZ;split<;>omega
theorem bZD.ext{A:Nat->Prop}{br:Nat}{v:Value}{l:List bZR}(h:bZD H A br v l)(e:Ext H H'):bZD H' A br v l:=h.imp (λb y ai q=>⟨ai,e b y q⟩) λ_L q=>e _ _ q
theorem bZD.put{ba br c:Nat}{v:Value}{l:List bZR}(h:bZD H (λb=>ba<=b) br v l)(af:c<ba)(ai:ba<=br)(x:cj):bZD (H.put c x) (λb=>ba<=b) br v l:=
 h.imp (λb y ai q=>⟨ai,by rw[cq (by omega)];exact q⟩) λL q=>by rw[cq (by omega)];exact q
theorem bZD.mono{ba n1 br:Nat}{v:Value}{l:List bZR}(h:bZD H (λb=>ba<=b) br v l)(af:n1<=ba):bZD H (λb=>n1<=b) br v l:=h.imp (λb y ai q=>⟨by omega,q⟩) λL q=>q
theorem dZG(al:bYH X)(g:cl pm H)(hm:bWu l){v:Value}(aO:bZE H 0 v l)(Fh:∀i,i<l.rows.length->(l.row i).cM.length<=1000){k:Int}(CH:-9223372036854775808<=k)(ag:k<=9223372036854775807):
 Call X pm F.bXF [v,.bool deep,.int .i64 k] H λr H'=>K pm H H'/\∃bZf b BW vj br,bZL l deep (bZZ k) (bVL.bZo l.aj) bZf b/\r=.tuple #[.agg #[.int .i64 bZf.bZh.st,aW bZf.bZh.val,BW,.slice none 0 0,.slice none 0 0],vj,.bool b]/\bZM H' H.next BW bZf.bZh.x/\bZD H' (λb=>H.next<=b) br vj bZf.tree/\H.next<=br:=by
 refine Call.h6 al.bXF rfl λQ bU=>?_;obtain⟨cy,dd,rfl,af,an⟩:=id aO;obtain⟨base,cap,ao,_⟩:=id af;obtain⟨dG,dE,e2,_⟩:=id an;subst ao e2;obtain⟨jW,jR⟩:=bZa (H.next);obtain⟨H1,cw⟩:=bZa (H.new (.cells [.slice base l.aj.length cap,.slice dG l.rows.length dE] (.t T.dZH)));have av:=bZv g cw;have g1:=av.aL;have h4:=bZQ cw jR;have n1:=bV cw jR;obtain⟨bJ,zq3⟩:=bZa (H1.next);obtain⟨aJ,ee⟩:=bZa (H1.new (.cells [.int .i64 0,.string ⟨#[]⟩,.slice none 0 0,.slice none 0 0,.slice none 0 0] (.t T.cZC)));have aI:=bZv g1 ee;have g2:=aI.aL;have eA:=bZQ ee zq3;have ayQ:=aI.some g1 h4;have h8:=av.trans aI;have n2:=bV ee zq3;obtain⟨p,aC⟩:=bZa (aJ.next);obtain⟨bN,iO⟩:=bZa (aJ.new (.cells [.slice base l.aj.length cap,.slice dG l.rows.length dE,.bool deep,.int .i64 300,.slice none 0 0,.slice none 0 0,.int .i64 2,.string ⟨#[]⟩,.slice none 0 0,.slice none 0 0,.slice none 0 0,.pointer none] (.t bZU)));have aQ:=bZv g2 iO;have g3:=aQ.aL;have jU:=bZQ iO aC;have jH:=K.trans h8 aQ;have IK:=bV iO aC;have bWv:pm.may p=true:=g.may (by omega);simp[g.pick,g.make,ptr,<-jR,<-cw,<-zq3,<-ee,<-aC,<-iO,ayQ,cX,setCells,c5,-bWX,-cZD]
 have main:∀l' cp,a7 9 l'=some (.pointer (some ⟨p,0,none⟩))->a7 6 l'=some (.pointer (some ⟨bJ,0,none⟩))->bp pm p bN cp->cp.get p=some (.cells [.slice base l.aj.length cap,.slice dG l.rows.length dE,.bool deep,.int .i64 (bZZ k:Int),.slice none 0 0,.slice none 0 0,.int .i64 2,.string ⟨#[]⟩,.slice none 0 0,.slice none 0 0,.slice none 0 0,.pointer none] (.t bZU))->
  wp X pm (.code bWX) l' cp [] Q:=by
  intro l' cp pN h1 eX a8
  have aGt:bZA cp p (.slice base l.aj.length cap) (.slice dG l.rows.length dE) deep (bZZ k) bVL p p 0:=
   ⟨⟨bR _,bR _⟩,⟨⟨_,a8⟩,⟨_,a8⟩⟩,_,_,_,_,a8,.inl ⟨rfl,rfl,rfl⟩,.inl ⟨rfl,rfl⟩,⟨kh.nil,λb off m cap e=>by cases e⟩,rfl⟩
  have g4:=eX.aL;have cXI:bp pm p aJ cp:=bp.trans (by rw[aC];exact aQ) eX;have ey:=g.lo;simp[pN,-bUF];refine aR.of (vs:=[.pointer (some ⟨p,0,none⟩)]) (by simp) (by simp) (dZz al g4 (by omega) hm aGt g2 (by omega) cXI (aO.ext (h8.ext g)) Fh dZF rfl rfl rfl) ?_;rintro _ cV ⟨bZf,b,bt,br,ct,an,rfl,bXb,hl⟩;have g5:=hl.aL;obtain⟨dYP,_,b3,vj,BW,bZI,aHw,_,bZY,xf,_⟩:=id bXb;have cZE:cV.get bJ=some (.cells [.int .i64 0,.string ⟨#[]⟩,.slice none 0 0,.slice none 0 0,.slice none 0 0] (.t T.cZC)):=(hl.get bJ (by omega)).trans ((cXI.get bJ (by omega)).trans eA);have bWE:pm.may bJ=true:=g.may (by omega);obtain⟨GU,as5,rfl⟩:=xf.form;obtain⟨rb,rfl⟩:=bZY.form;simp[-bUF];simp;refine eg.of g5.lo rfl ?_;obtain⟨ep,mA⟩:=bZa ((cV.up 12).put bJ (.cells [.int .i64 bZf.bZh.st,aW bZf.bZh.val,.slice GU bZf.bZh.x.length as5,.slice none 0 0,.slice none 0 0] (.t T.cZC)));have cZw:=g5.lt aHw;have bUg:=g5.lt cZE;have bE:K pm cV (cV.up 12):=(K.refl g5).up 12;have dZI:=bE.some g5 cZE;have kk:bp pm bJ cV ep:=by rw[mA];exact bp.put (bE.mono (by omega)) (bR _) dZI (by simp) _
  have d1:gp [bJ] [p]=true:=kS (by omega);have aaI:=bZC mA;have dZJ:=λo=>jh (lo:=pm.lo) (ok:=pm.ok) (o:=o) (b:=bJ) (by omega);have Q6:∀j,ep.get (cV.next+j)=none:=λj=>by rw[mA,cq (by omega)];exact g5.none j
  simp[dt,g5.none,g5.fo,aHw,cZE,pN,h1,dZJ,Q6,cX,setCells,c5,dx,dm,ez,d1,cZw,bUg,<-mA];have dZK:K pm H ep:=by
   have q:bp pm H.next H cV:=bp.trans jH (bp.trans (eX.mono (by omega)) (hl.mono (by omega)));exact bp.trans q (kk.mono (by omega))
  have cZF:∀b y,bJ<b->cV.get b=some y->ep.get b=some y:=λb y bc h=>by
   rw[mA,cq (by omega)];exact bE.some g5 h
  refine bU _ _ _ ⟨.inr rfl,[.agg #[.int .i64 bZf.bZh.st,aW bZf.bZh.val,.slice GU bZf.bZh.x.length as5,.slice none 0 0,.slice none 0 0],.slice rb bZf.tree.length bZf.tree.length,.bool b],by simp[h1,aaI,ik,c5,cX],dZK,bZf,b,_,_,br,an,rfl,?_,?_,by omega⟩
  ·exact xf.imp (A':=λb=>H.next<=b) λb y ai e=>⟨by have:=ai.1;omega,cZF b y (by have:=ai.1;omega) e⟩
  ·exact bZY.imp (λb y ai e=>⟨by have:=ai.1;omega,cZF b y (by have:=ai.1;omega) e⟩) λL e=>cZF _ _ (by omega) e
 by_cases aD:0<k
 ·simp[aD,jU,cX,setCells,bWv,-bWX];refine main _ _ (by simp) (by simp) (bp.put (.refl g3) (bR _) jU (by simp) _) ?_;rw[dX];have e:((bZZ k:Nat):Int)=if k<300 then k else 300:=by unfold bZZ;split<;>omega
  rw[e]
 ·simp[aD,-bWX];refine main _ _ (by simp) (by simp) (.refl g3) ?_;have e:bZZ k=300:=by unfold bZZ;rw[aU aD]
  rw[e];exact jU
end Go.Dam.C
namespace Go.Dam.C
open Go Go.Dam
theorem dZL{q:Rat}{N:Nat}(h:q.num.natAbs<=N):-((N:Int):Rat)<=q/\q<=((N:Int):Rat):=by
 have U:(N:Int)*1<=N*(q.den:Int):=Int.mul_le_mul_of_nonneg_left (by have:=q.den_pos;omega) (by omega);constructor
 ·rw[<-Rat.intCast_neg,Rat.le_iff,Rat.num_intCast,Rat.den_intCast,Int.neg_mul];omega
 ·rw[Rat.le_iff,Rat.num_intCast,Rat.den_intCast];omega
theorem bYq.short{s:List UInt8}(aD:s≠[])(h:s.length<=20):bYq s:=by
 have U:=dZL (F2 h).1;have e:(((10^20:Nat):Nat):Int)=(10:Int)^20:=by decide +kernel
 rw[e]at U;refine⟨aD,by omega,?_,?_⟩
 ·rw[bVx];exact U.1
 ·rw[bVx];exact U.2
def bYN(t:Bool)(c:eu):eu:=if t then{c with cost:=[48]} else c
theorem cXJ{t:Bool}{c:eu}:(bYN t c).low=c.low:=by cases t<;>rfl
theorem cXK{t:Bool}{c:eu}:(bYN t c).up=c.up:=by cases t<;>rfl
theorem dZM{t:Bool}{c:eu}:(bYN t c).int=c.int:=by cases t<;>rfl
noncomputable def Q1(l:bD):Bool:=decide ((bZT l).st=3)
noncomputable def bYu(l:bD):bD:=⟨l.aj.map (bYN (Q1 l)),l.rows⟩
def bXM(l:bD):Bool:=l.aj.any λc=>c.int&&(c.low.isEmpty||c.up.isEmpty)
theorem bUG{l:bD}:(bYu l).aj.length=l.aj.length:=by simp[bYu]
theorem cXL{l:bD}{i:Nat}(hi:i<l.aj.length):(bYu l).col i=bYN (Q1 l) (l.col i):=by
 rw[<-cYG,<-cYG];simp only[bYu,ob,bZV,hG hi,bZO,bYc]
structure bVZ(l:bD):Prop where
 s:iA l
 b:∀c∈l.aj,c.low.length<=20/\c.up.length<=20
 k:∀i,i<l.rows.length->(l.row i).cM.length<=1000
theorem bVZ.ok{l:bD}(h:bVZ l)(au:bXM l=false):bWu (bYu l):=by
 refine⟨⟨by rw[bUG];exact h.s.n,h.s.m,λc af=>?_,h.s.r⟩,λi hi e=>?_⟩
 ·obtain⟨c,x4,rfl⟩:=bYm.1 af;obtain⟨U,aa,aq⟩:=h.s.c c x4;refine⟨by rw[cXJ];exact U,by rw[cXK];exact aa,?_⟩;unfold bYN;split
  ·simp
  ·exact aq
 ·rw[bUG]at hi;rw[cXL hi]at e|-;rw[dZM]at e;rw[cXJ,cXK];have af:=fR (bD.Cn hi);have U:=h.b _ af;have aa:=List.any_eq_false.1 au _ af;simp[e]at aa;exact⟨.short aa.1 U.1,.short aa.2 U.2⟩
inductive bZS(l:bD)(deep:Bool)(k:Int):iz->List bZR->Int->Prop
 | form:l.dP=false->bZS l deep k ⟨0,[],[],[],[]⟩ [] 1
 | wide:l.dP=true->bXM l=true->bZS l deep k ⟨0,[],[],[],[]⟩ [] 10
 | bYp (bZf:bZe):l.dP=true->bXM l=false->bZL (bYu l) deep (bZZ k) (bVL.bZo (bYu l).aj) bZf false->bZS l deep k ⟨4,[],[],[],[]⟩ [] 0
 | Q1 (bZf:bZe):l.dP=true->bXM l=false->bZL (bYu l) deep (bZZ k) (bVL.bZo (bYu l).aj) bZf true->Q1 l=true->bZf.bZh.st=1->bZS l deep k ⟨3,[],bZf.bZh.x,[],(bZT l).r⟩ [] 0
 | done (bZf:bZe):l.dP=true->bXM l=false->bZL (bYu l) deep (bZZ k) (bVL.bZo (bYu l).aj) bZf true->¬(C.Q1 l=true/\bZf.bZh.st=1)->bZS l deep k ⟨bZf.bZh.st,bZf.bZh.val,bZf.bZh.x,[],[]⟩ bZf.tree 0
variable{X:aY}{pm pm':Perm}{H H' cL H0:ah}{n:Nat}
variable{deep:Bool}{l:bD}
theorem bUV(al:bYH X)(g:cl pm H)(hm:bVZ l){v:Value}(aO:bZE H 0 v l){k:Int}(CH:-9223372036854775808<=k)(ag:k<=9223372036854775807):
 Call X pm F.bYU [v,.bool deep,.int .i64 k] H λr H'=>K pm H H'/\∃u b3 br a t e,r=.tuple #[u,b3,.int .i64 e]/\bYo H' H.next u a/\bZD H' (λb=>H.next<=b) br b3 t/\H.next<=br/\bZS l deep k a t e:=by
 refine Call.h6 al.bYU rfl λQ bU=>?_;obtain⟨cy,dd,rfl,af,an⟩:=id aO;obtain⟨base,cap,ao,_⟩:=id af;obtain⟨dG,dE,e2,_⟩:=id an;subst ao e2;obtain⟨jW,jR⟩:=bZa (H.next);obtain⟨H1,cw⟩:=bZa (H.new (.cells [.slice base l.aj.length cap,.slice dG l.rows.length dE] (.t T.dZN)));have av:=bZv g cw;have g1:=av.aL;have h4:=bZQ cw jR;have n1:=bV cw jR;obtain⟨bJ,zq3⟩:=bZa (H1.next);obtain⟨aJ,ee⟩:=bZa (H1.new (.cells [.int .i64 0,.string ⟨#[]⟩,.slice none 0 0,.slice none 0 0,.slice none 0 0] (.t T.bWc)));have aI:=bZv g1 ee;have g2:=aI.aL;have eA:=bZQ ee zq3;have ayQ:=aI.some g1 h4;have h8:=av.trans aI;have n2:=bV ee zq3;have bWE:pm.may bJ=true:=g.may (by omega);have xH:∀{H':ah} {n:Nat},bZM H' n (.slice none 0 0) []:=⟨kh.nil,λb o m c e=>by cases e⟩
 have fin:∀l' H' st val BW dv vj b3 e br a t,a7 6 l'=some (.pointer (some ⟨bJ,0,none⟩))->a7 7 l'=some b3->a7 8 l'=some (.int .i64 e)->K pm H H'->H'.get bJ=some (.cells [.int .i64 st,aW val,BW,dv,vj] (.t T.bWc))->
  bYo H' H.next (.agg #[.int .i64 st,aW val,BW,dv,vj]) a->bZD H' (λb=>H.next<=b) br b3 t->H.next<=br->bZS l deep k a t e->Q .ret l' H':=λl' H' st val BW dv vj b3 e br a t h1 dO e3 bY aC aN aS ai hm=>by
  refine bU _ _ _ ⟨.inr rfl,[.agg #[.int .i64 st,aW val,BW,dv,vj],b3,.int .i64 e],by simp[h1,dO,e3,aC,ik,c5,cX],bY,_,b3,br,a,t,e,rfl,aN,aS,ai,hm⟩
 have cZG:∀l' H' st val e,a7 6 l'=some (.pointer (some ⟨bJ,0,none⟩))->a7 7 l'=some (.slice none 0 0)->a7 8 l'=some (.int .i64 e)->K pm H H'->H'.get bJ=some (.cells [.int .i64 st,aW val,.slice none 0 0,.slice none 0 0,.slice none 0 0] (.t T.bWc))->bZS l deep k ⟨st,val,[],[],[]⟩ [] e->Q .ret l' H':=λl' H' st val e h1 dO e3 bY aC hm=>
  fin l' H' st val _ _ _ _ e H.next _ [] h1 dO e3 bY aC ⟨_,_,_,rfl,xH,xH,xH⟩ (.inl ⟨rfl,rfl⟩) (bR _) hm
 simp[g.pick,g.make,ptr,<-jR,<-cw,<-zq3,<-ee,ayQ,cX,c5,-cZH,-cZI,-bUH];refine aR.bZb (vs:=[.agg #[.slice base l.aj.length cap,.slice dG l.rows.length dE]]) (Fi al.tohC g2 (aO.lp.ext (h8.ext g)) hm.s.ok) ?_;rintro _ bN ⟨aQ,rfl⟩;have g3:=aQ.aL;have jH:=K.trans h8 aQ;have jU:=aQ.some g2 eA;have Pt:=aQ.some g2 ayQ
 cases eO:l.dP with
 | false=>
   obtain⟨cp,nZ⟩:=bZa (bN.put bJ (.cells [.int .i64 0,.string ⟨#[]⟩,.slice none 0 0,.slice none 0 0,.slice none 0 0] (.t T.bWc)));have jY:K pm H cp:=by rw[nZ];exact bp.put jH (by omega) jU (by simp) _
   simp[jU,setCells,bWE,<-nZ,-bUH];refine cZG _ cp 0 [] 1 (by simp) (by simp) (by simp) jY (by rw[nZ];exact dX) (.form eO)
 | true=>
   simp[Pt,-cZJ,-bUI];have vF:bXM l=true↔∃i,i<l.aj.length/\((l.aj[i]?.map λc=>c.int&&(c.low.isEmpty||c.up.isEmpty)).getD false)=true:=by
    unfold bXM;rw[List.any_eq_true];constructor
    ·rintro⟨c,af,h⟩;obtain⟨i,hi⟩:=bVW af;exact⟨i,(nD.1 hi).1,by rw[hi];exact h⟩
    ·rintro⟨i,hi,h⟩;rw[hG hi]at h;exact⟨_,bVl hi,h⟩
   have dZO:zWa bN (.slice base l.aj.length cap) l.aj.length 5 (bYg l.aj):=(af.imp (jH.ext g) λ_ _ _ h=>h).sl;refine aR.of (vs:=[.slice base l.aj.length cap,.func (.func F.bXG) #[] #[]]) (by simp) (by simp;rfl) (axr al.tohC g3 dZO (by have:=hm.s.n;omega) (f:=F.bXG) (cs:=#[]) (λi=>((l.aj[i]?.map λc=>c.int&&(c.low.isEmpty||c.up.isEmpty)).getD false)) ?_ (t:=bXM l) vF) ?_
   ·rintro i aJ cs hi ⟨c,U,rfl⟩ aI;refine Call.mu al.bXG rfl ?_;have jV:=K.new aI.aL (.cells c.cells (.t T.cZK));have aGg:(aJ.new (.cells c.cells (.t T.cZK))).get aJ.next=some (.cells c.cells (.t T.cZK)):=dT;obtain⟨cx,a2,a3,a4,a5⟩:=c;simp only[eu.cells]at jV aGg|-
    cases a5 with
    | false=>simp[aI.aL.pick,aI.aL.make,ptr,cX,c5,aGg,U];exact jV
    | true=>
      rcases a2 with _ | ⟨x,a2⟩
      ·simp[aI.aL.pick,aI.aL.make,ptr,cX,c5,aGg,U];exact jV
      ·simp[aI.aL.pick,aI.aL.make,ptr,cX,c5,aGg,U];exact jV
   rintro _ cp ⟨bt,rfl⟩;have g4:=bt.aL;have jY:=K.trans jH bt;have mw:=bt.some g3 jU;have bUj:=bt.some g3 Pt
   cases bVM:bXM l with
   | true=>
     obtain⟨cV,r5⟩:=bZa (cp.put bJ (.cells [.int .i64 0,.string ⟨#[]⟩,.slice none 0 0,.slice none 0 0,.slice none 0 0] (.t T.bWc)));have sH:K pm H cV:=by rw[r5];exact bp.put jY (by omega) mw (by simp) _
     simp[mw,setCells,bWE,<-r5,-bUI];refine cZG _ cV 0 [] 10 (by simp) (by simp) (by simp) sH (by rw[r5];exact dX) (.wide eO bVM)
   | false=>
     simp[bUj,cX,c5,-cZL];refine aR.bZb (vs:=[.agg #[.slice base l.aj.length cap,.slice dG l.rows.length dE]]) (cYw al.tohj g4 hm.s.ok (aO.lp.ext (jY.ext g)) (λoj=>bQs hm.s oj)) ?_;rintro _ cV ⟨cd,⟨h,_⟩ | ⟨_,bYC,dYQ,rfl,dZP,fk⟩⟩
     ·rw[eO]at h;cases h
     have g5:=cd.aL;have sH:=K.trans jY cd;have qH:=cd.some g4 mw;have dZQ:=cd.some g4 bUj;have dZR:=dZP;obtain⟨mC,oM,bYv,rfl,kR,jw,jP⟩:=dZR;obtain⟨PI,PJ,ao,_⟩:=kR.1.ex;obtain⟨PK,PL,e2,_⟩:=jw.1.ex;obtain⟨PM,PN,bd,_⟩:=jP.1.ex;subst ao e2 bd;obtain⟨ayp,YS⟩:=bZa (cV.next);have bQT:pm.may ayp=true:=g5.may (by omega);have abi:=bYI YS;obtain⟨ep,mA⟩:=bZa ((cV.new (.cells [.int .i64 0,.string ⟨#[]⟩,.slice none 0 0,.slice none 0 0,.slice none 0 0] (.t T.cXM))).put ayp (.cells [.int .i64 bYC.st,aW bYC.val,.slice PI bYC.x.length PJ,.slice PK bYC.d.length PL,.slice PM bYC.r.length PN] (.t T.cXM)));have cv:=bYz g5 mA YS;have g6:=cv.aL;have G8:=K.trans sH cv;have qA:=cv.some g5 qH;have cXN:=cv.some g5 dZQ;have cXO:=bZC mA;have dYR:=bVt mA YS;simp[g5.pick,g5.make,ptr,<-YS,abi,bQT,<-mA,setCells,-bVN];refine eg.of g6.lo rfl ?_;obtain⟨z,bl⟩:=bZa (ep.next);have bE:K pm ep (ep.up 8):=(K.refl g6).up 8;have mS:=λj=>(by rw[bl];exact g6.none j:(ep.up 8).get (z+j)=none);have FA:=(by rw[bl];exact g6.fo:(ep.up 8).get z=none);obtain⟨fL,fc⟩:=bZa ((ep.up 8).put (z+4) (.cells [.slice none 0 0,.slice none 0 0] (.t T.bUJ)));have hD:K pm ep fL:=by rw[fc];exact bp.fill bE (by omega) (mS 4) (by show z+4<ep.next+8;omega) _
     have zV:=hD.aL;have oP:∀j,j≠4->fL.get (z+j)=none:=λj aH=>by rw[fc,cq (by omega)];exact mS j
     have YY:fL.get (z+4)=some (.cells [.slice none 0 0,.slice none 0 0] (.t T.bUJ)):=by rw[fc];exact dX
     have TG:fL.next=z+8:=by rw[fc,bl];rfl
     rw[<-bl];simp[dt,mS,FA,cXN,Perm.make,Perm.pick,ptr,<-fc,-bVN];refine bZx zV (vs:=[.slice base l.aj.length cap]) (by simp[oP]) (λpm' bS=>bVr (w:=5) (by':=72) al.bYJ bS (af.imp ((K.trans G8 hD).ext g) λ_ _ _ h=>h) (by decide) (by have:=hm.s.n;omega) (by decide) (λi cs ⟨c,_,e⟩=>by rw[e];rfl)) ?_;rintro fQ hM dJ ⟨f1,cy,sn⟩;have g7:=dJ.aL;have cQv:=dJ.next;have acT:∀j,j<8->j≠4->hM.get (z+j)=none:=λj aH j8=>(dJ.get _ (by omega)).trans (oP j j8);have cXP:=dJ.some zV YY;obtain⟨cR,e⟩:=cy.form;subst e;have x9:=λo=>jh (lo:=pm.lo) (ok:=pm.ok) (o:=o) (b:=z+4) (by have:=g6.lo;omega);obtain⟨ns,Cz⟩:=bZa (hM.put (z+4) (.cells [.slice cR l.aj.length l.aj.length,.slice dG l.rows.length dE] (.t T.bUJ)));have ayV:jW<z:=by have:=K.next G8;have:=g6.lt cXN;omega
     have bWp:gp [z+4] [jW]=true:=kS (by omega);simp[acT,cXP,setCells,c5,x9,<-Cz,bWp,dx,dm,eJ,ez,gI,ayV,-bVN];have wv:=K.trans G8 (K.trans hD dJ);have dZS:K pm H ns:=by rw[Cz];exact bp.put wv (by have:=K.next G8;omega) cXP (by simp) _
     have aS:decide (bYC.st=3)=Q1 l:=by unfold Q1;rw[bWs fk]
     have cZM:ns.get (z+4)=some (.cells [.slice cR l.aj.length l.aj.length,.slice dG l.rows.length dE] (.t T.bUJ)):=by rw[Cz];exact dX
     have cZN:∀b y,ep.get b=some y->ns.get b=some y:=λb y h=>by
      have:=g6.lt h;rw[Cz,cq (by omega)];exact dJ.some zV (hD.some g6 h)
     have dZT:=cZN _ _ cXO;have dZU:=cZN _ _ qA;have dYS:=g6.lt cXO;have bUg:=g6.lt qA;have cXQ:bZt ns fL.next hM.next (.slice cR l.aj.length l.aj.length) l.aj.length 5 λj=>(if j<0 then bYN (Q1 l) (l.col j) else l.col j).cells:=by
      have h:bZt ns fL.next hM.next (.slice cR l.aj.length l.aj.length) l.aj.length 5 f1:=by rw[Cz];exact cy.put (.inl (by omega)) _
      refine h.congr λj aH=>?_;obtain⟨c,ao,e2⟩:=sn j aH;rw[bD.Cn aH]at ao;cases ao;simp[e2]
     have Q6:=hm.s.n;obtain⟨bYD,tA⟩:=bZa (l.aj.length);rw[<-tA]at cZM cXQ;simp[cZM,<-tA,-cZO,-cZP]
     refine hv.of (σ:=Nat) (λi=>[(11,.pointer (some ⟨z+4,0,none⟩)),(9,.pointer (some ⟨ayp,0,none⟩)),(6,.pointer (some ⟨bJ,0,none⟩)),(1,.bool deep),(2,.int .i64 k),(37,.int .i64 (bYD:Int)),(38,.int .i64 (i:Int))])
      (λi H'=>i<=bYD/\K pm H H'/\(∀b y,b<fL.next->ns.get b=some y->H'.get b=some y)/\ns.next<=H'.next/\bZt H' fL.next hM.next (.slice cR bYD bYD) bYD 5 λj=>(if j<i then bYN (Q1 l) (l.col j) else l.col j).cells) (λi=>bYD-i) 0 (by simp) ⟨Nat.zero_le _,dZS,λ_ _ _ h=>h,bR _,cXQ⟩ ?_
     rintro i yf ⟨hi,bXN,bWY,cXR,cZQ⟩;have g9:=bXN.aL;have cXS:=bWY _ _ (by omega) cZM;have bUK:=bWY _ _ (by omega) dZT;have cXT:=bWY _ _ (by omega) dZU;by_cases gB:i<bYD
     ·have cS:wr .i64 ((i:Int)+1)=((i+1:Nat):Int):=by rw[zWc (by omega) (by omega)];simp
      by_cases aq:bYC.st=3
      ·obtain⟨b,L,bn,bh,cu,e9,mV⟩:=cZQ.pos (by omega);cases cu;obtain⟨L',abV⟩:=bZa (L.set (i*5+3) (aW [48]));have ox:=mV.lt gB (show 3<5 by decide);have iS:setCells L (i*5+3) [aW [48]]=some L':=by rw[abV];exact setCells_one ox
       obtain⟨aHy,bVO⟩:=bZa (yf.put b (.cells L' (.n 5)));have gN:H.next<=b:=by have:=K.next G8;omega
       have hm:pm.may b=true:=g.may gN;have ac1:K pm H aHy:=by rw[bVO];exact bp.put bXN gN e9 (by simp) _
       rw[aq]at aS;have dZV:jk L' 5 bYD λj=>(if j<i+1 then bYN (Q1 l) (l.col j) else l.col j).cells:=by
        rw[abV];refine mV.set gB (by decide) _ ?_ λj aH h=>?_
        ·simp[<-aS,bYN,eu.cells]
        ·by_cases e:j<i
         ·rw[bm e,bm (by omega)]
         ·rw[aU e,aU (by omega)]
       simp[gB,bUK,aq,cXS,e9,iS,hm,<-bVO,cS];refine rF.of (i+1) ?_ (by simp) ⟨by omega,ac1,λb' y ai h=>?_,?_,.inr ⟨b,L',bn,bh,rfl,by rw[bVO];exact dX,dZV⟩⟩
       ·show bYD-(i+1)<bYD-i;omega
       ·rw[bVO,cq (by omega)];exact bWY _ _ ai h
       ·rw[bVO];exact cXR
      ·simp[gB,bUK,aq,cS];rw[bYy aq]at aS;refine rF.of (i+1) ?_ (by simp) ⟨by omega,bXN,bWY,cXR,cZQ.congr λj aH=>?_⟩
       ·show bYD-(i+1)<bYD-i;omega
       ·simp[<-aS,bYN]
     ·obtain rfl:i=bYD:=by omega
      have dZW:∀j,j<i->(bYu l).aj[j]? = some (bYN (Q1 l) (l.col j)):=λj aH=>by
       rw[<-cXL (by omega)];exact bD.Cn (by rw[bUG];omega)
      have dZX:bZE yf 0 (.agg #[.slice cR i i,.slice dG l.rows.length dE]) (bYu l):=by
       refine⟨_,_,rfl,?_,an.ext (bXN.ext g)⟩;rw[bUG,<-tA];exact bZn.mono (bZt.e (P:=bYg (bYu l).aj) cZQ λj aH=>⟨_,dZW j aH,by rw[bm aH]⟩) (Nat.zero_le _) λ_ _ _ h=>h
      simp[cXS,cX,c5,-cZR,-cZS];refine aR.bZb (vs:=[.agg #[.slice cR i i,.slice dG l.rows.length dE],.bool deep,.int .i64 k]) (dZG al g9 (hm.ok bVM) dZX (λj aH=>hm.k j aH) CH ag) ?_;rintro _ aHy ⟨ac1,bZf,b,BW,vj,br,e7,rfl,rl,bZY,ya⟩;have g10:=ac1.aL;obtain⟨GU,as5,rfl,_⟩:=id rl.1.ex;obtain⟨rb,rfl⟩:=bZY.form;obtain⟨cXU,cZT⟩:=bZa (aHy.next);have dZY:pm.may cXU=true:=g10.may (by omega);have dZZ:=bYI cZT;obtain⟨bWZ,cZU⟩:=bZa ((aHy.new (.cells [.int .i64 0,.string ⟨#[]⟩,.slice none 0 0,.slice none 0 0,.slice none 0 0] (.t T.cXV))).put cXU (.cells [.int .i64 bZf.bZh.st,aW bZf.bZh.val,.slice GU bZf.bZh.x.length as5,.slice none 0 0,.slice none 0 0] (.t T.cXV)));have bWF:=bYz g10 cZU cZT;have g11:=bWF.aL;have gL:K pm H bWZ:=K.trans bXN (K.trans ac1 bWF);have cZV:=bZC cZU;have cZW:=bWF.some g10 (ac1.some g9 bUK);have bWG:=bWF.some g10 (ac1.some g9 cXT);have pN:=g9.lt bUK;have ck:=g9.lt cXT;have dYT:=K.next G8;simp[g10.pick,g10.make,ptr,<-cZT,dZZ,dZY,<-cZU,setCells,-cZX,-cZY]
      cases b with
      | false=>
        obtain⟨bYa,bYw⟩:=bZa (bWZ.put bJ (.cells [.int .i64 4,.string ⟨#[]⟩,.slice none 0 0,.slice none 0 0,.slice none 0 0] (.t T.bWc)));have iX:K pm H bYa:=by rw[bYw];exact bp.put gL (by omega) bWG (by simp) _
        simp[bWG,setCells,bWE,<-bYw];refine cZG _ bYa 4 [] 0 (by simp) (by simp) (by simp) iX (by rw[bYw];exact dX) (.bYp bZf eO bVM e7)
      | true=>
        have oJ:bJ<yf.next:=ck;have ka:∀bYa cs z,bYa=bWZ.put bJ (.cells cs z)->bZM bYa yf.next (.slice GU bZf.bZh.x.length as5) bZf.bZh.x/\bZD bYa (λb=>yf.next<=b) br (.slice rb bZf.tree.length bZf.tree.length) bZf.tree/\bZM bYa cp.next (.slice PM bYC.r.length PN) bYC.r:=λbYa cs z e=>by
         have e9:=g4.lt mw;have dYa:Ext cV bWZ:=λb y h=>bWF.some g10 (ac1.some g9 (bWY _ _ (by have:=g6.lt (cv.some g5 h);omega) (cZN _ _ (cv.some g5 h))));rw[e];exact⟨(rl.ext (bWF.ext g10)).put oJ _,(bZY.ext (bWF.ext g10)).put oJ ya _,(jP.ext dYa).put e9 _⟩
        by_cases aq:bYC.st=3/\bZf.bZh.st=1
        ·obtain⟨bYa,bYw⟩:=bZa (bWZ.put bJ (.cells [.int .i64 3,.string ⟨#[]⟩,.slice GU bZf.bZh.x.length as5,.slice none 0 0,.slice PM bYC.r.length PN] (.t T.bWc)));have iX:K pm H bYa:=by rw[bYw];exact bp.put gL (by omega) bWG (by simp) _
         obtain⟨b4,cB,dh⟩:=ka bYa _ _ bYw;simp[bWG,cZW,cZV,aq.1,aq.2,setCells,bWE,<-bYw];have hu:Q1 l=true:=by rw[<-aS,aq.1];rfl
         refine fin _ bYa 3 [] _ _ _ _ 0 H.next ⟨3,[],bZf.bZh.x,[],(bZT l).r⟩ [] (by simp) (by simp) (by simp) iX (by rw[bYw];exact dX) ⟨_,_,_,rfl,b4.mono (K.next bXN),xH,?_⟩ (.inl ⟨rfl,rfl⟩) (bR _) (.Q1 bZf eO bVM e7 hu aq.2);rw[bWs fk];exact dh.mono (K.next jY)
        ·obtain⟨bYa,bYw⟩:=bZa (bWZ.put bJ (.cells [.int .i64 bZf.bZh.st,aW bZf.bZh.val,.slice GU bZf.bZh.x.length as5,.slice none 0 0,.slice none 0 0] (.t T.bWc)));have iX:K pm H bYa:=by rw[bYw];exact bp.put gL (by omega) bWG (by simp) _
         obtain⟨b4,cB,_⟩:=ka bYa _ _ bYw;have aF:¬(Q1 l=true/\bZf.bZh.st=1):=λh=>aq ⟨by have:=h.1;rw[<-aS]at this;exact y0 this,h.2⟩;have acI:∀l',a7 6 l'=some (.pointer (some ⟨bJ,0,none⟩))->a7 7 l'=some (.slice rb bZf.tree.length bZf.tree.length)->a7 8 l'=some (.int .i64 0)->Q .ret l' bYa:=λl' a b c=>
          fin l' bYa bZf.bZh.st bZf.bZh.val _ _ _ _ 0 br ⟨bZf.bZh.st,bZf.bZh.val,bZf.bZh.x,[],[]⟩ bZf.tree a b c iX (by rw[bYw];exact dX) ⟨_,_,_,rfl,b4.mono (K.next bXN),xH,xH⟩ (cB.mono (K.next bXN)) (by have:=K.next bXN;omega) (.done bZf eO bVM e7 aF)
         by_cases bd:bYC.st=3
         ·have ao:bZf.bZh.st≠1:=λh=>aq ⟨bd,h⟩;simp[bWG,cZW,cZV,bd,ao,setCells,cX,c5,bWE,<-bYw];exact acI _ (by simp) (by simp) (by simp)
         ·have b1:(bYC.st==3)=false:=by simp[bd]
          simp[bWG,cZW,cZV,b1,setCells,cX,c5,bWE,<-bYw];exact acI _ (by simp) (by simp) (by simp)
end Go.Dam.C
namespace Go.Dam.C
open Go Go.Dam
variable{deep:Bool}{l:bD}
theorem bZL.up{l:bD}{m n:Nat}{s a b:bZe}{x:Bool}(hm:m<=n)(h:bZL l deep m s a true)(g:bZL l deep n s b x):a=b/\x=true:=by
 obtain⟨ao,e2⟩:=(h.more hm rfl).cUr g;exact⟨ao,e2.symm⟩
theorem bZS.mono{k k':Int}{b c:iz}{fA av7:List bZR}{f g:Int}(h:bZZ k<=bZZ k')(ai:bZS l deep k b fA f)(af:bZS l deep k' c av7 g):f=g/\(b.st=4∨b=c/\fA=av7):=by
 cases ai with
 | form U=>
   cases af with
   | form _=>exact⟨rfl,.inr ⟨rfl,rfl⟩⟩
   | wide g1 _=>rw[U]at g1;cases g1
   | bYp _ g1 _ _=>rw[U]at g1;cases g1
   | Q1 _ g1 _ _ _ _=>rw[U]at g1;cases g1
   | done _ g1 _ _ _=>rw[U]at g1;cases g1
 | wide U aa=>
   cases af with
   | form g1=>rw[U]at g1;cases g1
   | wide _ _=>exact⟨rfl,.inr ⟨rfl,rfl⟩⟩
   | bYp _ _ g2 _=>rw[aa]at g2;cases g2
   | Q1 _ _ g2 _ _ _=>rw[aa]at g2;cases g2
   | done _ _ g2 _ _=>rw[aa]at g2;cases g2
 | bYp bZf U aa aq=>
   refine⟨?_,.inl rfl⟩
   cases af with
   | form g1=>rw[U]at g1;cases g1
   | wide _ g2=>rw[aa]at g2;cases g2
   | bYp _ _ _ _=>rfl
   | Q1 _ _ _ _ _ _=>rfl
   | done _ _ _ _ _=>rfl
 | Q1 bZf U aa aq a8 cg=>
   cases af with
   | form g1=>rw[U]at g1;cases g1
   | wide _ g2=>rw[aa]at g2;cases g2
   | bYp _ _ _ g3=>obtain⟨_,e⟩:=aq.up h g3;cases e
   | Q1 _ _ _ g3 _ _=>obtain⟨rfl,_⟩:=aq.up h g3;exact⟨rfl,.inr ⟨rfl,rfl⟩⟩
   | done _ _ _ g3 g4=>obtain⟨rfl,_⟩:=aq.up h g3;exact absurd ⟨a8,cg⟩ g4
 | done bZf U aa aq a8=>
   cases af with
   | form g1=>rw[U]at g1;cases g1
   | wide _ g2=>rw[aa]at g2;cases g2
   | bYp _ _ _ g3=>obtain⟨_,e⟩:=aq.up h g3;cases e
   | Q1 _ _ _ g3 g4 g5=>obtain⟨rfl,_⟩:=aq.up h g3;exact absurd ⟨g4,g5⟩ a8
   | done _ _ _ g3 _=>obtain⟨rfl,_⟩:=aq.up h g3;exact⟨rfl,.inr ⟨rfl,rfl⟩⟩
theorem cZZ{k k':Int}(aD:0<k)(h:k<=k'∨k'=0):bZZ k<=bZZ k':=by
 unfold bZZ;rw[bm aD];split<;>omega
theorem bZS.cVR{n:Int}{a b c:iz}{cYj fA av7:List bZR}{e f g:Int}(aF:0<n)(aN:bZS l deep 0 a cYj e)(ai:bZS l deep n b fA f)(af:bZS l deep (n+3) c av7 g):
 f=e/\g=e/\(b.st=4∨b.st=a.st/\b.val=a.val)/\(c.st=4∨c.st=a.st/\c.val=a.val)/\(b.st=4∨c.st≠4):=by
 obtain⟨ao,U⟩:=bZS.mono (cZZ aF (.inr rfl)) ai aN;obtain⟨e2,aa⟩:=bZS.mono (cZZ (by omega) (.inr rfl)) af aN;obtain⟨_,aq⟩:=bZS.mono (cZZ aF (.inl (by omega))) ai af;refine⟨ao,e2,U.imp id λh=>by rw[h.1];exact⟨rfl,rfl⟩,aa.imp id λh=>by rw[h.1];exact⟨rfl,rfl⟩,?_⟩;by_cases a8:b.st=4
 ·exact .inl a8
 ·rcases aq with h | ⟨h,_⟩
  ·exact .inl h
  ·exact .inr (h▸a8)
end Go.Dam.C
namespace Go.Dam.C
open Go Go.Dam
def F.bXT:Nat:=3
@[simp] def cVS:ae:=(.seq (.aT [m 69 13,o 70 (.bin .eql .aZ (.t 69) (.c (.int .i64 (.ofNat 0)))),m 71 70,⟨(some 72),(some (71,true)),.aM (.t 16)⟩,⟨(some 73),(some (71,true)),.bin .eql .aZ (.t 72) (.c (.int .i64 (.ofNat 0)))⟩,o 74 (.pick (.t 71) (.t 73) (.c (.bool false))),m 75 74,⟨(some 76),(some (75,true)),.fieldAddr 0 (.t 11)⟩,⟨(some 77),(some (75,true)),.load false 1 (.t 76)⟩,⟨(some 78),(some (75,true)),.bin .eql .aZ (.t 77) (.c (.int .i64 (.ofNat 4)))⟩,⟨(some 79),(some (75,true)),.aM (.t 78)⟩,⟨(some 80),(some (79,false)),.fieldAddr 0 (.t 11)⟩,⟨(some 81),(some (79,false)),.load false 1 (.t 80)⟩,⟨(some 82),(some (79,false)),.fieldAddr 0 (.t 8)⟩,⟨(some 83),(some (79,false)),.load false 1 (.t 82)⟩,⟨(some 84),(some (79,false)),.bin .eql .aZ (.t 81) (.t 83)⟩,⟨(some 85),(some (79,false)),.aM (.t 84)⟩,⟨(some 86),(some (85,true)),.fieldAddr 1 (.t 11)⟩,⟨(some 87),(some (85,true)),.load false 1 (.t 86)⟩,⟨(some 88),(some (85,true)),.fieldAddr 1 (.t 8)⟩,⟨(some 89),(some (85,true)),.load false 1 (.t 88)⟩,⟨(some 90),(some (85,true)),.bin .eql .aZ (.t 87) (.t 89)⟩,⟨(some 91),(some (79,false)),.pick (.t 85) (.t 90) (.c (.bool false))⟩,⟨(some 92),(some (75,true)),.pick (.t 79) (.c (.bool true)) (.t 91)⟩,o 93 (.pick (.t 75) (.t 92) (.c (.bool false))),m 94 93,⟨(some 95),(some (94,true)),.fieldAddr 0 (.t 14)⟩,⟨(some 96),(some (94,true)),.load false 1 (.t 95)⟩,⟨(some 97),(some (94,true)),.bin .eql .aZ (.t 96) (.c (.int .i64 (.ofNat 4)))⟩,⟨(some 98),(some (94,true)),.aM (.t 97)⟩,⟨(some 99),(some (98,false)),.fieldAddr 0 (.t 14)⟩,⟨(some 100),(some (98,false)),.load false 1 (.t 99)⟩,⟨(some 101),(some (98,false)),.fieldAddr 0 (.t 8)⟩,⟨(some 102),(some (98,false)),.load false 1 (.t 101)⟩,⟨(some 103),(some (98,false)),.bin .eql .aZ (.t 100) (.t 102)⟩,⟨(some 104),(some (98,false)),.aM (.t 103)⟩,⟨(some 105),(some (104,true)),.fieldAddr 1 (.t 14)⟩,⟨(some 106),(some (104,true)),.load false 1 (.t 105)⟩,⟨(some 107),(some (104,true)),.fieldAddr 1 (.t 8)⟩,⟨(some 108),(some (104,true)),.load false 1 (.t 107)⟩,⟨(some 109),(some (104,true)),.bin .eql .aZ (.t 106) (.t 108)⟩,⟨(some 110),(some (98,false)),.pick (.t 104) (.t 109) (.c (.bool false))⟩,⟨(some 111),(some (94,true)),.pick (.t 98) (.c (.bool true)) (.t 110)⟩,o 112 (.pick (.t 94) (.t 111) (.c (.bool false))),m 6 112]) .ret)
@[simp] def cVT:ae:=(.cond (.t 68) (.seq (.aT [o 6 (.aM (.c (.bool false)))]) .ret) .skip)
@[simp] def cYu:ae:=(.seq (.seq (.aT [o 61 (.fieldAddr 0 (.t 11)),o 62 (.load false 1 (.t 61)),o 63 (.bin .neq .aZ (.t 62) (.c (.int .i64 (.ofNat 4)))),m 64 63,⟨(some 65),(some (64,true)),.fieldAddr 0 (.t 14)⟩,⟨(some 66),(some (64,true)),.load false 1 (.t 65)⟩,⟨(some 67),(some (64,true)),.bin .eql .aZ (.t 66) (.c (.int .i64 (.ofNat 4)))⟩,o 68 (.pick (.t 64) (.t 67) (.c (.bool false)))]) cVT) cVS)
@[simp] def cVU:ae:=(.cond (.t 52) (.seq (.aT [m 53 13,m 54 10,o 55 (.bin .eql .aZ (.t 53) (.t 54)),m 56 55,⟨(some 57),(some (56,true)),.aM (.t 16)⟩,⟨(some 58),(some (56,true)),.aM (.t 10)⟩,⟨(some 59),(some (56,true)),.bin .eql .aZ (.t 57) (.t 58)⟩,o 60 (.pick (.t 56) (.t 59) (.c (.bool false))),m 6 60]) .ret) .skip)
@[simp] def bQd:ae:=(.seq (.seq (.aT [m 51 10,o 52 (.bin .neq .aZ (.t 51) (.c (.int .i64 (.ofNat 0))))]) cVU) cYu)
@[simp] def cYr:List aE:=[m 42 47,o 48 (.extract (.t 42) 0),o 49 (.extract (.t 42) 1),o 50 (.extract (.t 42) 2),o 14 (.alloc 30 [(.int .i64 (.ofNat 0)),(.string ⟨#[]⟩),(.slice none 0 0),(.slice none 0 0),(.slice none 0 0)]),⟨none,none,.store 5 (.t 14) (.t 48)⟩,m 15 49,m 16 50]
@[simp] def bUY:ae:=(.seq (.aT ((o 43 (.load true 2 (.t 3)))::(m 44 1)::(m 45 2)::(o 46 (.bin .add .aZ (.t 45) (.c (.int .i64 (.ofNat 3)))))::(o 47 (.call F.bYU [(.t 43),(.t 44),(.t 46)]))::cYr)) bQd)
@[simp] def cYo:List aE:=[m 34 38,o 39 (.extract (.t 34) 0),o 40 (.extract (.t 34) 1),o 41 (.extract (.t 34) 2),o 11 (.alloc 30 [(.int .i64 (.ofNat 0)),(.string ⟨#[]⟩),(.slice none 0 0),(.slice none 0 0),(.slice none 0 0)]),⟨none,none,.store 5 (.t 11) (.t 39)⟩,m 12 40,m 13 41]
@[simp] def bUU:ae:=(.seq (.aT ((o 35 (.load true 2 (.t 3)))::(m 36 1)::(m 37 2)::(o 38 (.call F.bYU [(.t 35),(.t 36),(.t 37)]))::cYo)) bUY)
@[simp] def cYh:List aE:=[m 27 30,o 31 (.extract (.t 27) 0),o 32 (.extract (.t 27) 1),o 33 (.extract (.t 27) 2),o 8 (.alloc 30 [(.int .i64 (.ofNat 0)),(.string ⟨#[]⟩),(.slice none 0 0),(.slice none 0 0),(.slice none 0 0)]),⟨none,none,.store 5 (.t 8) (.t 31)⟩,m 9 32,m 10 33]
@[simp] def cYg:ae:=(.seq (.aT ((o 28 (.load true 2 (.t 3)))::(m 29 1)::(o 30 (.call F.bYU [(.t 28),(.t 29),(.c (.int .i64 (.ofNat 0)))]))::cYh)) bUU)
@[simp] def cYf:ae:=(.seq (.aT [m 22 2,o 23 (.bin .rem .aZ (.t 22) (.c (.int .i64 (.ofNat 12)))),o 24 (.bin .add .aZ (.t 23) (.c (.int .i64 (.ofNat 12)))),o 25 (.bin .rem .aZ (.t 24) (.c (.int .i64 (.ofNat 12)))),o 26 (.bin .add .aZ (.c (.int .i64 (.ofNat 1))) (.t 25)),m 2 26]) cYg)
@[simp] def cYe:List aE:=[⟨none,none,.store 2 (.t 3) (.t 21)⟩]
@[simp] def cVV:ae:=(.seq (.aT ((o 20 (.load true 2 (.t 3)))::(o 21 (.call F.wk [(.t 20)]))::cYe)) cYf)
@[simp] def cVW:ae:=(.cond (.t 19) (.seq (.aT [o 6 (.aM (.c (.bool false)))]) .ret) .skip)
@[simp] def cYd:ae:=(.seq (.seq (.aT [m 18 7,o 19 (.un .not (.t 18))]) cVW) cVV)
@[simp] def cYc:List aE:=[m 7 17]
@[simp] def cVX:ae:=(.seq (.aT ((o 17 (.call F.O9 []))::cYc)) cYd)
abbrev T.cVj:Nat:=25
abbrev T.cYl:Nat:=30
abbrev T.cYq:Nat:=30
abbrev T.cYt:Nat:=30
@[simp] def bXT:b2:=⟨113,(.seq (.aT [o 3 (.box 25 (.t 0)),o 6 (.aM (.c (.bool false)))]) cVX),[.slot 6]⟩
end Go.Dam.C
namespace Go.Dam.C
open Go Go.Dam
variable{X:aY}{pm pm':Perm}{H H' cL H0:ah}{n:Nat}
structure cYa(X:aY):Prop extends bYH X where
 bXT:Has X F.bXT C.bXT
abbrev cYb:Nat:=T.cVj
theorem cVk(lp:bD):bVZ lp.cut:=by
 refine⟨lp.ax8,λc af=>?_,λi hi=>?_⟩
 ·obtain⟨c,_,rfl⟩:=bYm.1 af;simp only[eu.cut,bXd];omega
 ·obtain⟨r,_,e⟩:=bYm.1 (fR (bD.rowAt hi):lp.cut.row i∈(lp.rows.take 6).map di.cut);rw[<-e];simp only[di.cut,bWf,bXd];omega
theorem cVl(a:Int):∃k:Nat,k<12/\(a.tmod 12+12).tmod 12=(k:Int)/\wr .i64 (a.tmod 12)=a.tmod 12/\wr .i64 (a.tmod 12+12)=a.tmod 12+12:=by
 have U:-(12:Int)<a.tmod 12:=by have:=Int.lt_tmod_of_pos a (show(0:Int)<12 by omega);omega
 have a8:a.tmod 12<12:=Int.tmod_lt_of_pos a (by omega);have aa:=Int.tmod_lt_of_pos (a.tmod 12+12) (show(0:Int)<12 by omega);have aq:0<=(a.tmod 12+12).tmod 12:=Int.tmod_nonneg _ (by omega);exact⟨((a.tmod 12+12).tmod 12).toNat,by omega,by omega,zWc (by omega) (by omega),zWc (by omega) (by omega)⟩
theorem cVm(al:cYa X)(g:cl pm H){v:Value}{lp:bD}{deep:Bool}{k:Int}(_CH:-9223372036854775808<=k)(_so:k<=9223372036854775807)(YK:x' H v lp):
 Call X pm F.bXT [v,.bool deep,.int .i64 k] H λr H'=>K pm H H'/\r=.bool true:=by
 refine Call.h6 al.bXT rfl λQ bU=>?_;have aw:=YK.lp;obtain⟨v1,v2,rfl,af,an⟩:=aw;obtain⟨base,cap,rfl,_⟩:=af.at;obtain⟨dG,dE,rfl,_⟩:=an.at;obtain⟨jW,jR⟩:=bZa (H.next);obtain⟨H1,cw⟩:=bZa (H.new (.cells [.slice base lp.aj.length cap,.slice dG lp.rows.length dE] (.t cYb)));have av:=bZv g cw;have g1:=av.aL;have h4:=bZQ cw jR;have n1:=bV cw jR;have cVn:pm.may jW=true:=g.may (by omega);have fin:∀l' H',K pm H H'->a7 6 l'=some (.bool true)->Q .ret l' H':=λl' H' bY h1=>bU _ _ _ (by simp[h1];exact bY);simp[g.pick,g.make,ptr,<-jR,<-cw,-cYc,-cYd];refine aR.bZb (vs:=[]) (ax2 al.tobWo g1.fJ) ?_;rintro _ H1 ⟨rfl,rfl⟩;simp[h4,cX,c5,-cYe,-cYf];refine aR.bZb (vs:=[.agg #[.slice base lp.aj.length cap,.slice dG lp.rows.length dE]]) (ayP al.tobWo pm _ g1 _ lp (YK.ext (av.ext g))) ?_;rintro cB aJ ⟨aI,f2⟩;have g2:=aI.aL;have eA:=aI.some g1 h4;obtain⟨fQ,fm,rfl,kE,mo,sn,Py⟩:=f2;obtain⟨zN,zO,rfl,_⟩:=kE.at;obtain⟨zP,zQ,rfl,_⟩:=mo.rows.at;obtain⟨bN,iO⟩:=bZa (aJ.put jW (.cells [.slice zN lp.cut.aj.length zO,.slice zP lp.cut.rows.length zQ] (.t cYb)));have fu:bp pm H.next aJ bN:=by rw[iO];exact bp.put (.refl g2) (by omega) eA (by simp) _
 have aQ:K pm H bN:=bp.trans (K.trans av aI) fu;have g3:=aQ.aL;have dh:=bZC iO;have bUa:sL bN H1.next (.agg #[.slice zN lp.cut.aj.length zO,.slice zP lp.cut.rows.length zQ]) lp.cut:=by
  rw[iO];exact sL.put ⟨_,_,rfl,kE,mo,sn,Py⟩ (by omega) _
 have bUT:bZE bN 0 (.agg #[.slice zN lp.cut.aj.length zO,.slice zP lp.cut.rows.length zQ]) lp.cut:=bZE.mono bUa.e (Nat.zero_le _);have gB:=cVk lp;obtain⟨q,aV,w0,cS,bL⟩:=cVl k;have kF:wr .i64 (1+(q:Int))=1+(q:Int):=zWc (by omega) (by omega);have Am:wr .i64 (1+(q:Int)+3)=1+(q:Int)+3:=zWc (by omega) (by omega);have aAj:wr .i64 (q:Int)=(q:Int):=zWc (by omega) (by omega);simp[eA,setCells,cVn,<-iO,w0,bL,kF,-cYg];simp[dh,cX,c5,-cYh,-bUU];refine aR.bZb (vs:=[.agg #[.slice zN lp.cut.aj.length zO,.slice zP lp.cut.rows.length zQ],.bool deep,.int .i64 (0)]) (bUV al.tobYH g3 gB (bUT.ext ((K.refl g3).ext g3)) (by omega) (by omega)) ?_;rintro _ cYi ⟨aAh,_,cYj,_,bXv,dYi,cYk,rfl,Et,_,_,aGo⟩;have bUb:=aAh.aL;obtain⟨aIS,aGz,ny,rfl,xc,cVo,aG3⟩:=Et;obtain⟨cVp,cVq,f1,_⟩:=xc.1.ex;obtain⟨cVr,cVs,f2,_⟩:=cVo.1.ex;obtain⟨cVt,cVu,f3,_⟩:=aG3.1.ex;subst f1 f2 f3;obtain⟨aCy,bUW⟩:=bZa (cYi.next);have cVv:pm.may aCy=true:=bUb.may (by omega);have aAg:=bYI bUW;obtain⟨cVw,bUX⟩:=bZa ((cYi.new (.cells [.int .i64 0,.string ⟨#[]⟩,.slice none 0 0,.slice none 0 0,.slice none 0 0] (.t T.cYl))).put aCy (.cells [.int .i64 bXv.st,aW bXv.val,.slice cVp bXv.x.length cVq,.slice cVr bXv.d.length cVs,.slice cVt bXv.r.length cVu] (.t T.cYl)));have cYm:=bYz bUb bUX bUW;have cYn:=cYm.aL;have cVx:=bZC bUX;simp[bUb.pick,bUb.make,ptr,<-bUW,aAg,cVv,<-bUX,setCells,-bUU];have RZ:K pm bN cVw:=K.trans aAh cYm;have kf:=RZ.some g3 dh;simp[kf,cX,c5,-cYo,-bUY];refine aR.bZb (vs:=[.agg #[.slice zN lp.cut.aj.length zO,.slice zP lp.cut.rows.length zQ],.bool deep,.int .i64 (1+(q:Int))]) (bUV al.tobYH cYn gB (bUT.ext (RZ.ext g3)) (by omega) (by omega)) ?_;rintro _ cYp ⟨cb,_,fA,_,ab,dYj,x2,rfl,vC,_,_,cVy⟩;have KR:=cb.aL;obtain⟨GU,kO,zb,rfl,bUZ,cVz,Dk⟩:=vC;obtain⟨cVA,cVB,f1,_⟩:=bUZ.1.ex;obtain⟨cVC,cVD,f2,_⟩:=cVz.1.ex;obtain⟨cVE,cVF,f3,_⟩:=Dk.1.ex;subst f1 f2 f3;obtain⟨aX,wO⟩:=bZa (cYp.next);have x9:pm.may aX=true:=KR.may (by omega);have aaw:=bYI wO;obtain⟨cVG,bQa⟩:=bZa ((cYp.new (.cells [.int .i64 0,.string ⟨#[]⟩,.slice none 0 0,.slice none 0 0,.slice none 0 0] (.t T.cYq))).put aX (.cells [.int .i64 ab.st,aW ab.val,.slice cVA ab.x.length cVB,.slice cVC ab.d.length cVD,.slice cVE ab.r.length cVF] (.t T.cYq)));have bQb:=bYz KR bQa wO;have bQc:=bQb.aL;have cVH:=bZC bQa;simp[KR.pick,KR.make,ptr,<-wO,aaw,x9,<-bQa,setCells,-bUY];have R0:K pm bN cVG:=K.trans RZ (K.trans cb bQb);have vN:=R0.some g3 dh;simp[vN,cX,c5,Am,-cYr,-bQd];refine aR.bZb (vs:=[.agg #[.slice zN lp.cut.aj.length zO,.slice zP lp.cut.rows.length zQ],.bool deep,.int .i64 (1+(q:Int)+3)]) (bUV al.tobYH bQc gB (bUT.ext (R0.ext g3)) (by omega) (by omega)) ?_;rintro _ cYs ⟨cQ,_,av7,_,ac,dYk,uf,rfl,UO,_,_,iS⟩;have j1:=cQ.aL;obtain⟨as5,cVI,dYl,rfl,Lk,cVJ,avg⟩:=UO;obtain⟨cVK,cVL,f1,_⟩:=Lk.1.ex;obtain⟨cVM,cVN,f2,_⟩:=cVJ.1.ex;obtain⟨cVO,cVP,f3,_⟩:=avg.1.ex;subst f1 f2 f3;obtain⟨o1,bQe⟩:=bZa (cYs.next);have auA:pm.may o1=true:=j1.may (by omega);have Np:=bYI bQe;obtain⟨cVQ,bQf⟩:=bZa ((cYs.new (.cells [.int .i64 0,.string ⟨#[]⟩,.slice none 0 0,.slice none 0 0,.slice none 0 0] (.t T.cYt))).put o1 (.cells [.int .i64 ac.st,aW ac.val,.slice cVK ac.x.length cVL,.slice cVM ac.d.length cVN,.slice cVO ac.r.length cVP] (.t T.cYt)));have bUc:=bYz j1 bQf bQe;have dYm:=bUc.aL;have e6:=bZC bQf;simp[j1.pick,j1.make,ptr,<-bQe,Np,auA,<-bQf,setCells,-bQd];have bUd:K pm H cVQ:=K.trans aQ (K.trans R0 (K.trans cQ bUc));have bQg:=bUc.some j1 (cQ.some bQc (bQb.some KR (cb.some cYn cVx)));have bQh:=bUc.some j1 (cQ.some bQc cVH);obtain⟨ao,e2,bd,b1,cK⟩:=bZS.cVR (by omega) aGo cVy iS;subst ao e2;by_cases aD:uf=0
 ·subst aD;by_cases rQ:ab.st=4
  ·by_cases iZ:ac.st=4
   ·simp[bQh,e6,rQ,iZ,zWb];exact fin _ _ bUd (by simp)
   ·obtain⟨cs,bZk⟩:=b1.resolve_left iZ;have a4:¬bXv.st=4:=cs▸iZ;have a5:(bXv.st==4)=false:=by simp[a4]
    simp[bQg,bQh,e6,rQ,cs,bZk,a5,zWb];exact fin _ _ bUd (by simp)
  ·have iZ:=cK.resolve_left rQ;obtain⟨cW,bv⟩:=bd.resolve_left rQ;obtain⟨cs,bZk⟩:=b1.resolve_left iZ;have a4:¬bXv.st=4:=cs▸iZ;have a5:(bXv.st==4)=false:=by simp[a4]
   simp[bQg,bQh,e6,cW,bv,cs,bZk,a5];exact fin _ _ bUd (by simp)
 ·simp[aD,-cYu];exact fin _ _ bUd (by simp)
end Go.Dam.C
namespace Go.Dam.C
open Go Go.Dam Go.RowKit
def jn.post:jn->Value->ah->Prop
 | .eW q,v,H=>jC H v q
 | .val u,v,_=>v=u/\plainCell u=true
 | .no,v,_=>v=.tuple #[.pointer none,.bool false]
 | .yes q,v,H=>∃p,v=.tuple #[p,.bool true]/\jC H p q
theorem aB6{γ:bo}{v v':Value}(h:bg γ v v')(aC:plainCell v=true):v'=v:=by
 cases h<;>first | rfl | (simp[plainCell]at aC)
theorem abr{H:ah}(h:qI H=true):H.get 1=some (.eE (.nat 0)):=by
 unfold qI at h;split at h
 ·assumption
 ·cases h
theorem RQ{base:Nat}{γ:bo}{H:ah}{w:World}(an:Rel iG base γ H w){a a':Value}{p:Rat}(h:qD H a=some p)(aw:bg γ a a'):yD w (iJ γ H w) a' p:=by
 unfold qD at h;split at h
 ·cases aw;simp only[a6]at h;exact .inl ⟨rfl,h.symm⟩
 ·rename_i b;split at h
  ·rename_i q aK;obtain⟨L,bC,_,rfl⟩:=aw.pj;obtain⟨x,U,aa⟩:=an.bI b L bC;rw[aK]at U;cases U;obtain⟨gd,aB,aV⟩:=aa;simp only[a6]at h;subst h;simp only[aB];exact aV
  ·cases h
 ·cases h
theorem Step.eE{O:da}{base:Nat}{pm:Perm}{γ:bo}{H:ah}{w w':World}(an:Rel O base γ H w)(ai:Below w.heap.size w w'){o:Hr}{c:Nat}(af:w.heap.size<=c)(hW:c<w'.heap.size)
 (kZ:O.rel w' (λb=>b<w'.heap.size/\(iJ γ H w b∨w.heap.size<=b)) c o):Step O base pm γ H w (γ.set H.next ⟨c,0,0,0⟩) (H.new (.eE o)) w':=by
 have hle:=an.Wk ⟨c,0,0,0⟩;have ag:∀c,c<w.heap.size->w'.heap[c]? = w.heap[c]?:=ai.block;have bO:∀b L,γ b=some L->hr (H.get b)->L.bI<w.heap.size:=λb L h r=>by
  obtain⟨x,U,aa⟩:=an.bI b L h;rw[U]at r;exact aa.lt r
 have aK:∀b,(H.new (.eE o)).get b=if b=H.next then some (.eE o) else H.get b:=λb=>ah.qa H b _
 have lQ:∀b L,γ.set H.next ⟨c,0,0,0⟩ b=some L->hr ((H.new (.eE o)).get b)->γ b=some L/\hr (H.get b):=λb L h r=>by
  rw[aK]at r;by_cases e:b=H.next
  ·rw[bm e]at r;exact r.elim
  ·rw[bo.j' _ _ e]at h;rw[aU e]at r;exact⟨h,r⟩
 have e8:∀b,(b<w'.heap.size/\(iJ γ H w b∨w.heap.size<=b))->iJ (γ.set H.next ⟨c,0,0,0⟩) (H.new (.eE o)) w' b:=λb ⟨U,aa⟩=>⟨U,λd L h r=>by
  obtain⟨bn,bh⟩:=lQ d L h r
  rcases aa with aa | aa
  ·exact aa.2 d L bn bh
  ·have:=bO d L bn bh;omega⟩
 have aB7:∀b,iJ γ H w b->iJ (γ.set H.next ⟨c,0,0,0⟩) (H.new (.eE o)) w' b/\w'.heap[b]? = w.heap[b]?:=λb h=>⟨e8 b ⟨hR h.1 ai.size,.inl h⟩,ag b h.1⟩;refine⟨⟨λb L h=>?_,λb L h=>?_,λb h=>?_,λb b' L L' h gJ r r' q=>?_,λb L h r=>?_,bH an.size ai.size⟩,hle,λb L U aa=>?_,ai.size,λc af _=>ag c af,bXu _,λb ai _=>?_,λb L h r=>?_,λb L U aa=>?_,ai.os,ai.tape,ai.output⟩
 ·rw[aK];by_cases e:b=H.next
  ·subst e;rw[bo.im]at h;cases h;rw[bm rfl];exact⟨_,rfl,e8 c ⟨hW,.inr af⟩,rfl,O.zg kZ λb ai=>⟨e8 b ai,rfl⟩⟩
  ·rw[bo.j' _ _ e]at h;obtain⟨x,U,aa⟩:=an.bI b L h;rw[aU e];exact⟨x,U,aa.mono hle aB7 λr=>ag _ (aa.lt r)⟩
 ·show b<H.next+1;by_cases e:b=H.next
  ·omega
  ·rw[bo.j' _ _ e]at h;have:=an.lt b L h;omega
 ·have h:H.next+1<=b:=h;rw[aK,aU (by omega)];exact an.new b (by omega)
 ·obtain⟨bn,bh⟩:=lQ b L h r;obtain⟨cu,e9⟩:=lQ b' L' gJ r';exact an.inj b b' L L' bn cu bh e9 q
 ·obtain⟨bn,bh⟩:=lQ b L h r;exact an.low b L bn bh
 ·by_cases e:b=H.next
  ·subst e;rw[bo.im]at U;cases U;exact .inl af
  ·rw[bo.j' _ _ e,aa]at U;cases U
 ·rw[aK,aU (by omega)]
 ·have:=an.lt b L h;rw[aK,aU (by omega)]at r;exact r
 ·by_cases e:b=H.next
  ·exact .inl (by omega)
  ·rw[bo.j' _ _ e,aa]at U;cases U
section
variable{P:Program}{G:Nat->Bool}{X:aY}
theorem aB8(jb:∀g,G g=true->g=1)(db:∀m d,fT nz P G (X.K m d)){N:Nat->Prop}{W:World}{γ:bo}{H:ah}(h:In nz N W γ H){f:FuncId}{args:List Value}{dR:Array Value}{R:Value->ah->Prop}(af:Call X ⟨0,[],none⟩ f args H R)(aN:cm γ args dR.toList):
 tI P f dR W λen w'=>∃r v' bk H',en=.returned v'/\R r H'/\bg bk r v'/\Rel nz 0 bk H' w'/\Below W.heap.size W w'/\(∀b L,bk b=some L->N L.bI∨W.heap.size<=L.bI)/\∀b L,bk b=some L->hr (H'.get b)->W.heap.size<=L.bI:=by
 obtain⟨r,H',⟨M,e7⟩,dD⟩:=af;have bA:hH G γ:=by
  intro g aK;obtain rfl:=jb g aK;obtain⟨L,g1,g2,g3⟩:=h.FE;exact⟨L,g1,g2,g3⟩
 have aB:=db M M ⟨0,[],none⟩ f args H r H' rfl (e7 M M (bR _) (bR _)) 0 γ W dR h.rel bA aN;refine aB.mono λen w' ⟨bk,v',U,aa,aq⟩=>⟨r,v',bk,H',U,dD,aa,aq.rel,⟨aq.os,aq.tape,aq.output,aq.grow,λc af=>aq.bT c af λb L ai r=>(h.ro b r).elim⟩,λb L ai=>?_,λb L ai rw=>?_⟩
 ·cases e:γ b with
  | some hI=>
    have:=aq.ext b hI e;rw[ai]at this;cases this;exact .inl (h.n b L e)
  | none=>
    rcases aq.fresh b L ai e with q | ⟨b0,_,_,q,_⟩
    ·exact .inr q
    ·exact(h.ro b0 q).elim
 ·cases e:γ b with
  | some hI=>exact(h.ro b (aq.mR b hI e rw)).elim
  | none=>
    rcases aq.fresh b L ai e with q | ⟨b0,_,_,q,_⟩
    ·exact q
    ·exact(h.ro b0 q).elim
theorem KY(j7:G 1=true)(jb:∀g,G g=true->g=1)(db:∀m d,fT nz P G (X.K m d)){f:FuncId}{r:List Value->ah->Option jn}
 (h:∀args H x,r args H=some x->∀base γ w dR,Rel iG base γ H w->cm γ args dR->∀γ0 H0,In nz (iJ γ H w) w γ0 H0->∃RR RS cH,In nz (iJ γ H w) w RR RS/\cm RR cH dR/\Call X ⟨0,[],none⟩ f cH RS x.post):gY iG P G f (eM r):=by
 intro pm args H v H' _ aK base γ w dR an bA aN;unfold eM at aK
 cases aS:qI H with
 | false=>rw[aS]at aK;cases aK
 | true=>
   rw[aS]at aK;simp only[cond_true]at aK;split at aK
   ·rename_i x az;simp only[a6]at aK;obtain⟨L,bC,ai,_⟩:=bA 1 j7;obtain⟨y,U,aa⟩:=an.bI 1 L bC;rw[abr aS]at U;cases U;obtain⟨gd,_,_,_,e,cz,hw⟩:=aa;rw[ai]at gd hw;obtain⟨RR,RS,cH,hi,aC,af⟩:=h args H x az base γ w dR.toList an aN _ _ (In.start (λ_ h=>⟨rfl,h,e,cz,hw⟩) hw gd);refine(aB8 jb db hi af aC).mono λen w' ⟨r,v',bk,aJ,U,dD,aa,aq,dC,a8,cg⟩=>?_;have eW:∀{p yk:Value} {q:Rat},jC aJ p q->bg bk p yk->∃c,yk=.pointer (some ⟨c,0,none⟩)/\Step iG base pm γ H w (γ.set H.next ⟨c,0,0,0⟩) (H.new (.eE (.lF q))) w'/\bg (γ.set H.next ⟨c,0,0,0⟩) (.pointer (some ⟨H.next,0,none⟩)) yk:=λ{p yk q} bc aw=>by
     obtain⟨c,L,b,rfl,g1,rfl,g2,g3⟩:=jC.out (N:=λc=>iJ γ H w c∨w.heap.size<=c) aq a8 bc aw;have hW:L.bI<w'.heap.size:=by
      obtain⟨x,av,aI⟩:=aq.bI b L g1;rw[av]at g2;exact aI.lt g2
     exact⟨L.bI,rfl,Step.eE an dC (cg b L g1 g2) hW (g3.mono λc af aO=>⟨⟨aO,af⟩,rfl⟩),RO⟩
    cases x with
    | eW q=>
      cases aK;obtain⟨c,rfl,g1,g2⟩:=eW dD aa;exact⟨_,_,U,g2,g1⟩
    | val u=>
      cases aK;obtain⟨rfl,hu⟩:=dD;obtain rfl:=aB6 aa hu;exact⟨γ,_,U,.plainCell hu,Step.below an dC⟩
    | no=>
      cases aK;cases dD;obtain⟨gg,rfl,c9⟩:=aa.Ik;obtain⟨gg⟩:=gg
      cases c9 with
      | cons cx a2=>
        cases a2 with
        | cons a2 a3=>
          cases a3;cases cx;cases a2;exact⟨γ,_,U,.tuple (.cons .EI (.cons (.bool _) .nil)),Step.below an dC⟩
    | yes q=>
      cases aK;obtain⟨p,rfl,bc⟩:=dD;obtain⟨gg,rfl,c9⟩:=aa.Ik;obtain⟨gg⟩:=gg
      cases c9 with
      | cons cx a2=>
        cases a2 with
        | cons a2 a3=>
          cases a3;obtain⟨c,rfl,g1,g2⟩:=eW bc cx;obtain rfl:=a2.qf;exact⟨_,_,U,.tuple (.cons g2 (.cons (.bool _) .nil)),g1⟩
   ·cases aK
theorem In.ok{O:da}{N:Nat->Prop}{W:World}{γ:bo}{H:ah}(h:In O N W γ H):cU ⟨0,[],none⟩ H:=⟨rfl,Nat.zero_le _,h.rel.new,λ_ _=>trivial⟩
theorem Gv(j7:G 1=true)(jb:∀g,G g=true->g=1)(db:∀m d,fT nz P G (X.K m d)){f:FuncId}{k:Rat->jn}
 (h:∀{H v q},cU ⟨0,[],none⟩ H->Tab H->iv H v q->ca q=true->Call X ⟨0,[],none⟩ f [v] H (k q).post):gY iG P G f (eM (b4 k)):=by
 refine KY j7 jb db λargs H x an base γ w dR tT aN γ0 H0 hi=>?_;unfold b4 at an;split at an
 ·rename_i a;split at an
  ·rename_i p aC
   cases aG:ca p with
   | false=>rw[aG]at an;cases an
   | true=>
     rw[aG]at an;simp only[cond_true,a6]at an;subst an
     cases aN with
     | cons U aa=>
       cases aa;obtain⟨gO,H1,jW,i1,ck,df,v1,f1⟩:=hi.lF (RQ tT aC U);exact⟨gO,H1,[jW],i1,.cons v1 .nil,h i1.ok i1.fJ f1 aG⟩
  ·cases an
 ·cases an
theorem Gw(j7:G 1=true)(jb:∀g,G g=true->g=1)(db:∀m d,fT nz P G (X.K m d)){f:FuncId}{k:Rat->Rat->jn}
 (h:∀{H v u p q},cU ⟨0,[],none⟩ H->iv H v p->iv H u q->ca p=true->ca q=true->Call X ⟨0,[],none⟩ f [v,u] H (k p q).post):gY iG P G f (eM (cB k)):=by
 refine KY j7 jb db λargs H x an base γ w dR tT aN γ0 H0 hi=>?_;unfold cB at an;split at an
 ·rename_i a b;split at an
  ·rename_i p aC;split at an
   ·rename_i q aV
    cases aG:(ca p&&ca q) with
    | false=>rw[aG]at an;cases an
    | true=>
      rw[aG]at an;simp only[cond_true,a6]at an;subst an;rw[cG]at aG
      cases aN with
      | cons U aa=>
        cases aa with
        | cons aa aq=>
          cases aq;obtain⟨gO,H1,jW,i1,ck,df,v1,f1⟩:=hi.lF (RQ tT aC U);obtain⟨dQ,aJ,hB,i2,cJ,dW,v2,f2⟩:=i1.lF (RQ tT aV aa);exact⟨dQ,aJ,[jW,hB],i2,.cons (v1.mono cJ) (.cons v2 .nil),h i2.ok (f1.le dW) f2 aG.1 aG.2⟩
   ·cases an
  ·cases an
 ·cases an
structure abt(P:Program)(G:Nat->Bool):Prop where
 abu:gY iG P G F.kp (eM Gx)
 abv:gY iG P G F.nx (eM Dp)
 abw:gY iG P G F.kG (eM KZ)
 abx:gY iG P G F.nW (eM K0)
 aby:gY iG P G F.ke (eM K1)
 abz:gY iG P G F.oG (eM K2)
 abA:gY iG P G F.k7 (eM K3)
 abB:gY iG P G F.nV (eM K4)
 abC:gY iG P G F.gE (eM K5)
 abD:gY iG P G F.tS (eM RT)
 abE:gY iG P G F.su (eM RU)
 abF:gY iG P G F.mI (eM K6)
theorem aB9(j7:G 1=true)(jb:∀g,G g=true->g=1)(db:∀m d,fT nz P G (X.K m d))(al:kr X):abt P G where
 abu:=KY j7 jb db λargs H x an base γ w dR tT aN γ0 H0 hi=>by
  unfold Gx at an;split at an
  ·rename_i n
   cases af:(decide (-9223372036854775808<=n)&&decide (n<=9223372036854775807)) with
   | false=>rw[af]at an;cases an
   | true=>
     rw[af]at an;simp only[cond_true,a6]at an;subst an;simp only[cG,eh]at af;exact⟨γ0,H0,[.int .i64 n],hi,(by cases aN with | cons U aa=>cases aa;rw[U.gC];exact .cons (.int _ _) .nil),(aCa al hi.ok af.1 af.2).mono λ_ _ h=>h.2⟩
  ·cases an
 abv:=KY j7 jb db λargs H x an base γ w dR tT aN γ0 H0 hi=>by
  unfold Dp at an;split at an
  ·rename_i s
   cases af:Nat.blt s.size 1000000 with
   | false=>rw[af]at an;cases an
   | true=>
     rw[af]at an;simp only[cond_true,a6]at an;subst an;rw[js,eh]at af;refine⟨γ0,H0,[.string s],hi,(by cases aN with | cons U aa=>cases aa;rw[U.jv];exact .cons (.str _) .nil),?_⟩;refine(aCb (l:=s.data.toList) al hi.ok hi.fJ af).mono λr H' h=>?_
     rcases h.2 with⟨e,h⟩ | ⟨q,p,e,h,aC⟩
     ·rw[e];exact h
     ·rw[e];exact⟨p,h,aC⟩
  ·cases an
 abw:=Gw j7 jb db λau U aa s1 s2=>(Xl al.tofa au U aa (ca.sz s1) (ca.sz s2) (by decide)).mono λ_ _ h=>h.2
 abx:=Gw j7 jb db λau U aa s1 s2=>(Xm al.tofa au U aa (ca.sz s1) (ca.sz s2) (by decide)).mono λ_ _ h=>h.2
 aby:=Gw j7 jb db λau U aa s1 s2=>(avW al.tofa au U aa (ca.sz s1) (ca.sz s2) (by decide)).mono λ_ _ h=>h.2
 abz:=Gw j7 jb db λ{H v u p q} au U aa s1 s2=>(avX al.tofa au U aa (ca.sz s1) (ca.sz s2) (by decide)).mono λr H' h=>by
  rcases h.2 with⟨e,h⟩ | ⟨e,x,h,aC⟩
  ·rw[bm e];exact h
  ·rw[aU e];exact⟨x,h,aC⟩
 abA:=Gw j7 jb db λau U aa s1 s2=>(av2 al.tofa au U aa (ca.sz s1) (ca.sz s2) (Dq (ca.sz s1) (ca.sz s2)) (by decide)).mono λ_ _ h=>⟨h.2,rfl⟩
 abB:=Gv j7 jb db λau _ h s=>(Xg al.tofa au h (ca.sz s) (by decide)).mono λ_ _ h=>h.2
 abC:=Gv j7 jb db λau _ h s=>(Xe al.tofa au h (ca.sz s) (by decide)).mono λ_ _ h=>⟨h.2,rfl⟩
 abD:=Gv j7 jb db λau _ h s=>(av5 al.tofa au h (ca.sz s) (by decide)).mono λ_ _ h=>h.2
 abE:=Gv j7 jb db λau _ h s=>(av3 al.tofa au h (ca.sz s) (by decide)).mono λ_ _ h=>⟨h.2,rfl⟩
 abF:=Gv j7 jb db λau aS h s=>(abG al au aS h (ca.sz s) (by decide) (by decide)).mono λ_ _ h=>⟨h.2,rfl⟩
end
section
variable{O:da}{P:Program}{W:World}
def hy(O:da)(W:World)(v':Value)(Q:ah->Value->Prop):Prop:=∀γ H,In O (λ_=>True) W γ H->∃bk H' v,In O (λ_=>True) W bk H'/\γ.le bk/\Ext H H'/\bg bk v v'/\Q H' v
def JO(Q:ah->Value->Prop):Prop:=∀H H' v,Ext H H'->Q H v->Q H' v
theorem hy.plain{v:Value}(h:plainCell v=true):hy O W v λ_ u=>u=v:=λγ H hi=>⟨γ,H,v,hi,.refl _,.refl _,.plainCell h,rfl⟩
theorem hy.imp{v:Value}{Q ha:ah->Value->Prop}(h:hy O W v Q)(g:∀H u,Q H u->ha H u):hy O W v ha:=λγ H hi=>
 let ⟨bk,H',u,a,b,c,d,e⟩:=h γ H hi;⟨bk,H',u,a,b,c,d,g _ _ e⟩
theorem hy.list{V:Nat->Value}{Q:Nat->ah->Value->Prop}(aG:∀i,JO (Q i)):∀k,(∀i,i<k->hy O W (V i) (Q i))->∀γ H,In O (λ_=>True) W γ H->
 ∃bk H',∃u:Nat->Value,In O (λ_=>True) W bk H'/\γ.le bk/\Ext H H'/\∀i,i<k->bg bk (u i) (V i)/\Q i H' (u i)
 | 0,_,γ,H,hi=>⟨γ,H,λ_=>.bool true,hi,.refl _,.refl _,λi hi=>absurd hi (od _)⟩
 | k+1,h,γ,H,hi=>by
   obtain⟨gO,H1,u,i1,ck,df,U⟩:=hy.list aG k (λi hi=>h i (by omega)) γ H hi;obtain⟨dQ,aJ,v,i2,cJ,dW,aw,aV⟩:=h k (by omega) gO H1 i1;refine⟨dQ,aJ,λi=>if i=k then v else u i,i2,ck.trans cJ,df.trans dW,λi JP=>?_⟩;by_cases e:i=k
   ·subst e;simp only[if_true];exact⟨aw,aV⟩
   ·simp only[e,if_false];obtain⟨p,q⟩:=U i (by omega);exact⟨p.mono cJ,aG i _ _ _ dW q⟩
theorem hy.nil{w:Nat}{Q:ah->Nat->List Value->Prop}:hy O W (.slice none 0 0) λH u=>hO H u 0 w (Q H):=λγ H hi=>
 ⟨γ,H,_,hi,.refl _,.refl _,.xH,none,0,rfl,bR _,λ_=>rfl,λa h=>by cases h⟩
theorem hy.slice{a:Addr}{len cap w:Nat}{V:Nat->Value}{Q:Nat->ah->Value->Prop}(aG:∀i,JO (Q i))(aO:len<=cap)(hw:0<w)(eI:∀j,j<cap*w->W.cell? (a.add j)=some (V j))(h:∀j,j<len*w->hy O W (V j) (Q j)):
 hy O W (.slice (some a) len cap) λH v=>hO H v len w λi cs=>∃u:Nat->Value,cs=(List.range w).map (λk=>u (i*w+k))/\∀k,k<w->Q (i*w+k) H (u (i*w+k)):=by
 intro γ H hi;obtain⟨gO,H1,u,i1,ck,df,U⟩:=hy.list aG (len*w) h γ H hi;have hlen:((List.range (len*w)).map u).length=len*w:=by simp
 have an:cm gO ((List.range (len*w)).map u) ((List.range (len*w)).map V):=cm.vD (by simp) λi v v' p q=>by
  rw[bZV]at p q;by_cases z6:i<len*w
  ·rw[bXP z6]at p q;cases p;cases q;exact(U i z6).1
  ·rw[jq (by simpa using z6)]at p;cases p
 obtain⟨j9,g1,g2,_⟩:=i1.FE;obtain⟨b,o,ay2,tT⟩:∃b o,wz W (λ_=>True) b o ((List.range (len*w)).map V)/\bg (gO.set H1.next ⟨b,o,0,0⟩) (.slice (some ⟨H1.next,0,none⟩) len cap) (.slice (some a) len cap):=by
  by_cases af:cap=0
  ·subst af;obtain rfl:len=0:=by omega
   obtain⟨c,e,cz,c9⟩:=i1.Qj;exact⟨1,0,⟨trivial,c,e,cz,c9,by simp,by simp⟩,.p9 (bo.im _ _ _)⟩
  ·have nR:0<cap*w:=bXS (by omega) hw;have aD:=eI 0 nR;obtain⟨b,o,sp⟩:=a;have sk:sp=none:=by simpa [Addr.add]using World.cell?_spot aD
   subst sk;obtain⟨c,elem,cz,c9⟩:∃c elem cz,W.heap[b]? = some (.cells c elem cz):=by
    unfold World.cell? at aD;split at aD
    ·rename_i c e f c9;exact⟨c,e,f,by simpa [Addr.add]using c9⟩
    ·cases aD
   have mW:∀i,i<cap*w->c[o+i]? = some (V i):=by
    intro i hi;have aa:=eI i hi;rw[add_eq]at aa;simpa [World.cell?,c9]using aa
   have Qk:=(ic.1 (mW (cap*w-1) (by omega))).1;have hle:len*w<=cap*w:=hQ _ aO;refine⟨b,o,⟨trivial,c,elem,cz,c9,by simp;omega,λi v e=>?_⟩,?_⟩
   ·rw[bZV]at e;by_cases z6:i<len*w
    ·rw[bXP z6]at e;cases e;exact mW i (by omega)
    ·rw[jq (by simpa using z6)]at e;cases e
   ·have:=bg.jN (γ:=gO.set H1.next ⟨b,o,0,0⟩) (b:=H1.next) (off:=0) (n:=len) (cap:=cap) (dN:=cap) (L:=⟨b,o,0,0⟩) (bo.im _ _ _) (bR _) aO (.inl rfl);simpa using this
 obtain⟨i2,cJ,dW⟩:=i1.add ay2 an;refine⟨_,_,_,i2,ck.trans cJ,df.trans dW,tT,_,cap,rfl,aO,(λh=>by cases h),λa h=>?_⟩;cases h;refine⟨H1.next,0,_,rfl,.inl dT,by simp,λi hi=>⟨_,CG ?_,u,?_,λk ag=>aG _ _ _ _ dW (U _ ?_).2⟩⟩
 ·have:i*w+w<=len*w:=by rw[<-bZW];exact hQ _ hi
  simp;omega
 ·apply bYQ;intro k;by_cases ag:k<w
  ·have:i*w+w<=len*w:=by rw[<-bZW];exact hQ _ hi
   rw[pT ag,o',bZV,bZV,bXP ag,bXP (by omega),Nat.zero_add];rfl
  ·rw[jq (by simp;omega),jq (by simpa using ag)]
 ·have:i*w+w<=len*w:=by rw[<-bZW];exact hQ _ hi
  omega
theorem JQ{v:Value}:JO λ_ u=>u=v:=λ_ _ _ _ h=>h
theorem hO.zg{m w:Nat}{P:Nat->List Value->Prop}:JO λH v=>hO H v m w P:=λ_ _ _ e h=>hO.imp h e λ_ _ _ h=>h
def iB:Value->List UInt8
 | .string s=>s.data.toList
 | _=>[]
def z7:Value->Int
 | .int _ n=>n
 | _=>0
def JR:Value->Bool
 | .bool b=>b
 | _=>false
def oR(v:Value):Prop:=∃s,v=.string s
def yh(v:Value):Prop:=∃n,v=.int .i64 n
def CN(v:Value):Prop:=∃b,v=.bool b
theorem oR.st{v:Value}(h:oR v):v=aW (iB v):=by obtain⟨s,rfl⟩:=h;rfl
theorem yh.int{v:Value}(h:yh v):v=.int .i64 (z7 v):=by obtain⟨s,rfl⟩:=h;rfl
theorem CN.bool{v:Value}(h:CN v):v=.bool (JR v):=by obtain⟨s,rfl⟩:=h;rfl
theorem oR.lift{v:Value}(h:oR v):hy O W v λ_ u=>u=v:=by obtain⟨s,rfl⟩:=h;exact .plain rfl
theorem yh.lift{v:Value}(h:yh v):hy O W v λ_ u=>u=v:=by obtain⟨s,rfl⟩:=h;exact .plain rfl
theorem CN.lift{v:Value}(h:CN v):hy O W v λ_ u=>u=v:=by obtain⟨s,rfl⟩:=h;exact .plain rfl
def FF(W:World)(w:Nat)(v:Value)(E:(Nat->Value)->Prop):Prop:=v=.slice none 0 0∨∃a len cap,∃V:Nat->Value,v=.slice (some a) len cap/\len<=cap/\(∀j,j<cap*w->W.cell? (a.add j)=some (V j))/\∀i,i<cap->E λk=>V (i*w+k)
def B7(W:World)(v:Value):Prop:=FF W 1 v λV=>oR (V 0)
def I3(W:World)(v:Value):Prop:=FF W 2 v λV=>yh (V 0)/\oR (V 1)
def I4(W:World)(v:Value):Prop:=FF W 5 v λV=>oR (V 0)/\oR (V 1)/\oR (V 2)/\oR (V 3)/\CN (V 4)
def RowsIn(W:World)(v:Value):Prop:=FF W 5 v λV=>oR (V 0)/\yh (V 1)/\I3 W (V 2)/\oR (V 3)/\oR (V 4)
theorem B7.lift{v:Value}(h:B7 W v):∃l,hy O W v λH u=>kh H u l:=by
 rcases h with rfl | ⟨a,len,cap,V,rfl,aO,eI,bz⟩
 ·exact⟨[],λγ H hi=>⟨γ,H,_,hi,.refl _,.refl _,.xH,kh.nil⟩⟩
 ·refine⟨(List.range len).map λi=>iB (V i),(hy.slice (w:=1) (Q:=λj _ u=>u=V j) (λ_=>JQ) aO (by decide) eI λj aH=>?_).imp λH u h=>?_⟩
  ·have:=bz j (by omega);simp only[Nat.mul_one,Nat.add_zero]at this;exact this.lift
  ·obtain⟨base,cap,rfl,_,aD,U⟩:=h;refine⟨base,cap,by simp,λi hi=>?_⟩;have hi:i<len:=by simpa using hi
   cases base with
   | none=>have:=aD rfl;omega
   | some a=>
     obtain⟨b,off,row,rfl,aa,aq,a8⟩:=U _ rfl;obtain⟨cs,cg,u,rfl,dj⟩:=a8 i hi;have j4:=dj 0 (by decide);simp only[Nat.mul_one,Nat.add_zero]at j4;have Ei:=(Fy cg).2;have mm:=congrArg (λl=>l[0]?) Ei;simp[j4]at mm;have aG:=bz i (by omega);simp only[Nat.mul_one,Nat.add_zero]at aG;exact aa.elim (λaa=>⟨b,off,_,row,V i,rfl,aa,rfl,mm.symm,iB (V i),by simp[hi],aG.st⟩) λaa=>⟨b,off,_,row,V i,rfl,aa,rfl,mm.symm,iB (V i),by simp[hi],aG.st⟩
theorem I3.lift{v:Value}(h:I3 W v):∃l:List fb,hy O W v λH u=>hO H u l.length 2 λi cs=>∃c,l[i]? = some c/\cs=c.cells:=by
 rcases h with rfl | ⟨a,len,cap,V,rfl,aO,eI,bz⟩
 ·exact⟨[],hy.nil⟩
 ·refine⟨(List.range len).map λi=>⟨z7 (V (i*2+0)),iB (V (i*2+1))⟩,(hy.slice (w:=2) (Q:=λj _ u=>u=V j) (λ_=>JQ) aO (by decide) eI λj aH=>?_).imp λH u h=>?_⟩
  ·obtain⟨U,aa⟩:=bz (j/2) (by omega);have e:j=j/2*2+0∨j=j/2*2+1:=by omega
   rcases e with e | e<;>rw[e]
   ·exact U.lift
   ·exact aa.lift
  ·simp only[bWf,bVg];refine hO.imp h (λ_ _ e=>e) λi cs hi ⟨u,e,hu⟩=>⟨⟨z7 (V (i*2+0)),iB (V (i*2+1))⟩,by simp[hi],?_⟩;obtain⟨U,aa⟩:=bz i (by omega);have cY:=hu 0 (by decide);have ao:=hu 1 (by decide);rw[e];show[u (i*2+0),u (i*2+1)]=_;rw[cY,ao];show[V (i*2+0),V (i*2+1)]=[.int .i64 (z7 (V (i*2+0))),aW (iB (V (i*2+1)))];rw[<-U.int,<-aa.st]
theorem I4.lift{v:Value}(h:I4 W v):∃l:List eu,hy O W v λH u=>hO H u l.length 5 λi cs=>∃c,l[i]? = some c/\cs=c.cells:=by
 rcases h with rfl | ⟨a,len,cap,V,rfl,aO,eI,bz⟩
 ·exact⟨[],hy.nil⟩
 ·refine⟨(List.range len).map λi=>⟨iB (V (i*5+0)),iB (V (i*5+1)),iB (V (i*5+2)),iB (V (i*5+3)),JR (V (i*5+4))⟩,(hy.slice (w:=5) (Q:=λj _ u=>u=V j) (λ_=>JQ) aO (by decide) eI λj aH=>?_).imp λH u h=>?_⟩
  ·obtain⟨aD,U,aa,aq,a8⟩:=bz (j/5) (by omega);have e:j=j/5*5+0∨j=j/5*5+1∨j=j/5*5+2∨j=j/5*5+3∨j=j/5*5+4:=by omega
   rcases e with e | e | e | e | e<;>rw[e]
   ·exact aD.lift
   ·exact U.lift
   ·exact aa.lift
   ·exact aq.lift
   ·exact a8.lift
  ·simp only[bWf,bVg];refine hO.imp h (λ_ _ e=>e) λi cs hi ⟨u,e,hu⟩=>⟨⟨iB (V (i*5+0)),iB (V (i*5+1)),iB (V (i*5+2)),iB (V (i*5+3)),JR (V (i*5+4))⟩,by simp[hi],?_⟩;obtain⟨aD,U,aa,aq,a8⟩:=bz i (by omega);rw[e];show[u (i*5+0),u (i*5+1),u (i*5+2),u (i*5+3),u (i*5+4)]=[aW (iB (V (i*5+0))),aW (iB (V (i*5+1))),aW (iB (V (i*5+2))),aW (iB (V (i*5+3))),.bool (JR (V (i*5+4)))];rw[hu 0 (by decide),hu 1 (by decide),hu 2 (by decide),hu 3 (by decide),hu 4 (by decide),<-aD.st,<-U.st,<-aa.st,<-aq.st,<-a8.bool]
theorem RowsIn.lift{v:Value}(h:RowsIn W v):∃l:List di,hy O W v λH u=>CF H u l:=by
 rcases h with rfl | ⟨a,len,cap,V,rfl,aO,eI,bz⟩
 ·exact⟨[],λγ H hi=>⟨γ,H,_,hi,.refl _,.refl _,.xH,none,0,rfl,bR _,λ_=>rfl,λa h=>by cases h⟩⟩
 ·have af:∀i,∃l:List fb,i<cap->hy O W (V (i*5+2)) λH u=>hO H u l.length 2 λi cs=>∃c,l[i]? = some c/\cs=c.cells:=λi=>by
   by_cases hi:i<cap
   ·obtain⟨l,h⟩:=(bz i hi).2.2.1.lift (O:=O);exact⟨l,λ_=>h⟩
   ·exact⟨[],λh=>absurd h hi⟩
  obtain⟨co,Fh⟩:∃co:Nat->List fb,∀i,i<cap->hy O W (V (i*5+2)) λH u=>hO H u (co i).length 2 λiq cs=>∃c,(co i)[iq]? = some c/\cs=c.cells:=⟨λi=>(af i).choose,λi=>(af i).choose_spec⟩
  refine⟨(List.range len).map λi=>⟨iB (V (i*5+0)),z7 (V (i*5+1)),co i,iB (V (i*5+3)),iB (V (i*5+4))⟩,
   (hy.slice (w:=5) (Q:=λj H u=>if j%5=2 then hO H u (co (j/5)).length 2 λiq cs=>∃c,(co (j/5))[iq]? = some c/\cs=c.cells else u=V j) (λj=>?_) aO (by decide) eI λj aH=>?_).imp λH u h=>?_⟩
  ·by_cases e:j%5=2
   ·simp only[e,if_true];exact hO.zg
   ·simp only[e,if_false];exact JQ
  ·obtain⟨aD,U,aa,aq,a8⟩:=bz (j/5) (by omega);have e:j=j/5*5+0∨j=j/5*5+1∨j=j/5*5+2∨j=j/5*5+3∨j=j/5*5+4:=by omega
   rcases e with e | e | e | e | e
   ·simp only[show ¬j%5=2 by omega,if_false];rw[e];exact aD.lift
   ·simp only[show ¬j%5=2 by omega,if_false];rw[e];exact U.lift
   ·have:=Fh (j/5) (by omega);rw[<-e]at this;simp only[show j%5=2 by omega,if_true];exact this
   ·simp only[show ¬j%5=2 by omega,if_false];rw[e];exact aq.lift
   ·simp only[show ¬j%5=2 by omega,if_false];rw[e];exact a8.lift
  ·unfold CF;simp only[bWf,bVg];refine hO.imp h (λ_ _ e=>e) λi cs hi ⟨u,e,hu⟩=>⟨⟨iB (V (i*5+0)),z7 (V (i*5+1)),co i,iB (V (i*5+3)),iB (V (i*5+4))⟩,u (i*5+2),by simp[hi],?_,?_⟩
   ·obtain⟨aD,U,aa,aq,a8⟩:=bz i (by omega);have u0:=hu 0 (by decide);have fQ:=hu 1 (by decide);have fu:=hu 3 (by decide);have eX:=hu 4 (by decide);rw[aU (by omega)]at u0 fQ fu eX;rw[e];show[u (i*5+0),u (i*5+1),u (i*5+2),u (i*5+3),u (i*5+4)]=[aW (iB (V (i*5+0))),.int .i64 (z7 (V (i*5+1))),u (i*5+2),aW (iB (V (i*5+3))),aW (iB (V (i*5+4)))];rw[u0,fQ,fu,eX,<-aD.st,<-U.int,<-aq.st,<-a8.st]
   ·have fm:=hu 2 (by decide);rw[bm (by omega),show(i*5+2)/5=i by omega]at fm;exact fm
def I5(W:World)(v:Value):Prop:=∃v1 v2,v=.agg #[v1,v2]/\I4 W v1/\RowsIn W v2
def Fb(W:World)(v:Value):Prop:=∃v0 v1 v2 v3 v4,v=.agg #[v0,v1,v2,v3,v4]/\yh v0/\oR v1/\B7 W v2/\B7 W v3/\B7 W v4
theorem I5.lift{v:Value}(h:I5 W v):∃lp:bD,hy O W v λH u=>x' H u lp:=by
 obtain⟨v1,v2,rfl,U,aa⟩:=h;obtain⟨aj,ck⟩:=U.lift (O:=O);obtain⟨rows,cJ⟩:=aa.lift (O:=O);refine⟨⟨aj,rows⟩,λγ H hi=>?_⟩;obtain⟨gO,H1,fQ,i1,ao,df,b4,bn⟩:=ck γ H hi;obtain⟨dQ,aJ,fm,i2,e2,dW,cB,bh⟩:=cJ gO H1 i1;exact⟨dQ,aJ,.agg #[fQ,fm],i2,ao.trans e2,df.trans dW,.agg (.cons (b4.mono e2) (.cons cB .nil)),fQ,fm,rfl,hO.zg _ _ _ dW bn,bh⟩
theorem Fb.lift{v:Value}(h:Fb W v):∃a:iz,hy O W v λH u=>ur H u a:=by
 obtain⟨v0,v1,v2,v3,v4,rfl,aD,U,aa,aq,a8⟩:=h;obtain⟨x,cJ⟩:=aa.lift (O:=O);obtain⟨d,eT⟩:=aq.lift (O:=O);obtain⟨r,hP⟩:=a8.lift (O:=O);obtain⟨n,rfl⟩:=aD;obtain⟨s,rfl⟩:=U;refine⟨⟨n,s.data.toList,x,d,r⟩,λγ H hi=>?_⟩;obtain⟨dQ,aJ,fm,i2,e2,dW,cB,bh⟩:=cJ γ H hi;obtain⟨NG,bN,fu,i3,bd,gZ,dh,cu⟩:=eT dQ aJ i2;obtain⟨ay3,cp,eX,i4,b1,jz,kf,e9⟩:=hP NG bN i3;exact⟨ay3,cp,.agg #[.int .i64 n,.string s,fm,fu,eX],i4,(e2.trans bd).trans b1,(dW.trans gZ).trans jz,.agg (.cons (.int _ _) (.cons (.str _) (.cons ((cB.mono bd).mono b1) (.cons (dh.mono b1) (.cons kf .nil))))),fm,fu,eX,rfl,bh.ext (gZ.trans jz),cu.ext jz,e9⟩
section
variable{CO:Type}{enc:TypeId×Value->CO}{base:Nat}{held:Bool}
theorem I2{t e fuel w:Nat}{v:Value}{x:DataW CO×List MemPlace}{E:(Nat->Value)->Prop}(aS:P.underlying t=some (.slice e))(af:P.cellsOf e=w)(h:DataW.trod enc P W base (λ_=>true) held fuel t [v]=some x)
 (bz:∀(V:Nat->Value) n y,DataW.trod enc P W base (λ_=>true) held n e ((List.range w).map V)=some y->E V):FF W w v E:=by
 rcases Deep.open_slice aS h with⟨ao,_⟩ | ⟨a,len,cap,m,n,D,Zc,ao,_,aO,_,hm,_,az⟩
 ·exact .inl (by simpa using ao)
 ·have hm:m=cap:=by simpa using hm
  subst hm;rw[af]at az;refine .inr ⟨a,len,m,λj=>(W.cell? (a.add j)).getD (.bool true),by simpa using ao,aO,?_⟩;have mW:∀i,i<m->∃cs,cs.length=w/\(∀k,k<w->W.cell? (a.add (i*w+k))=cs[k]?)/\DataW.trod enc P W base (λ_=>true) held n e cs=some (D i,Zc i):=λi hi=>by
   obtain⟨cs,U,aa⟩:=az i hi;obtain⟨_,aq,a8⟩:=World.cells?_some U;exact⟨cs,aq,λk ag=>by rw[<-a8 k ag,Deep.add_add],aa⟩
  refine⟨λj aH=>?_,λi hi=>?_⟩
  ·have hw:0<w:=tq λe=>by subst e;simp at aH
   obtain⟨cs,U,aa,_⟩:=mW (j/w) (bXO (by rw[gw];exact aH));have aq:=aa (j%w) (bYT _ hw);rw[show j/w*w+j%w=j by rw[gw];exact bWN j w]at aq;rw[hG (by rw[U];exact bYT _ hw)]at aq;show _=some ((W.cell? (a.add j)).getD _);rw[aq];rfl
  ·obtain⟨cs,U,aa,aq⟩:=mW i hi;refine bz _ n (D i,Zc i) ?_;rw[<-aq];congr 1;apply bYQ;intro k;by_cases ag:k<w
   ·rw[bZV,bXP ag,<-aa k ag];have:=aa k ag;rw[hG (by omega)]at this;rw[this];simp[this]
   ·rw[jq (by simpa using ag),jq (by omega)]
theorem lY{e fuel:Nat}{fs:Array Field}{cs:List Value}{x:DataW CO×List MemPlace}{i:Nat}{f:Field}{u:Value}(aS:P.underlying e=some (.struct fs))(h:DataW.trod enc P W base (λ_=>true) held fuel e cs=some x)
 (bc:fs[i]? = some f) (af:P.cellsOf f.type=1) (hu:cs[f.offset]? = some u):∃n y,DataW.trod enc P W base (λ_=>true) held n f.type [u]=some y:=by
 obtain⟨xs,n,_,_,_,hlen,az⟩:=DataW.trod_struct aS h;have U:=az i f bc;have hi:=(ic.1 bc).1;have e:(cs.drop f.offset).take 1=[u]:=by
  apply bYQ;intro k
  cases k with
  | zero=>simp[hu]
  | succ k=>simp[List.getElem?_take]
 rw[af,e,hG (by omega)]at U;exact⟨n,_,U⟩
theorem tV{t fuel:Nat}{u:Value}{y:DataW CO×List MemPlace}(aS:P.underlying t=some .string)(h:DataW.trod enc P W base (λ_=>true) held fuel t [u]=some y):oR u:=by
 obtain⟨s,e,_⟩:=DataW.trod_string aS h;exact⟨s,by simpa using e⟩
theorem N4{t fuel:Nat}{u:Value}{y:DataW CO×List MemPlace}(aS:P.underlying t=some (.int .i64))(h:DataW.trod enc P W base (λ_=>true) held fuel t [u]=some y):yh u:=by
 obtain⟨s,e,_⟩:=DataW.trod_int aS h;exact⟨s,by simpa using e⟩
theorem aw5{t fuel:Nat}{u:Value}{y:DataW CO×List MemPlace}(aS:P.underlying t=some .bool)(h:DataW.trod enc P W base (λ_=>true) held fuel t [u]=some y):CN u:=by
 obtain⟨s,e,_⟩:=DataW.trod_bool aS h;exact⟨s,by simpa using e⟩
end
end
end Go.Dam.C
