/- What the functions of the program compute, for every input. -/
import Derived.Test.YtbholmodckdigaaGreatDoorLawC
namespace Go.Dam.C
open Go Go.Dam
variable{X:ar}{pm dC:Perm}{H aa bL aj:ad}{n:Nat}
theorem Ma(q:q' X)(g:bs pm H){v bP:Value}{ab:aI}{r:bQ}{ah up:List UInt8}(bj:mr H v ab)(bk:eg H bP r.j.length 2 λi cs=>∃c,r.j[i]? = some c/\cs=c.cells):
 Call X pm F.n6 [v,.agg (r.cells bP).toArray,aA ah,aA up] H λr aa=>K pm H aa/\r=.bool true:=by
 refine Call.P q.n6 rfl λbl hQ=>?_;have hv:=bj.ab;obtain⟨_,_,rfl,hc,hr⟩:=hv;obtain⟨aN,aO,rfl,_⟩:=hc.at;obtain⟨aQ,aR,rfl,_⟩:=hr.at;obtain⟨cb,ao,rfl,_⟩:=id bk;obtain⟨P,aS⟩:∃b,b=H.next:=⟨_,rfl⟩;obtain⟨H1,ax⟩:∃H1,H1=H.new (.cells [.slice aN ab.a.length aO,.slice aQ ab.rows.length aR] (.t yN)):=⟨_,rfl⟩;have bm:K pm H H1:=by rw[ax];exact K.new g _
 have g1:=bm.h;have ck:H1.get P=some (.cells [.slice aN ab.a.length aO,.slice aQ ab.rows.length aR] (.t yN)):=by rw[ax,aS];exact b4
 have n1:H1.next=P+1:=by rw[ax,aS];rfl
 obtain⟨J,aU⟩:∃b,b=H1.next:=⟨_,rfl⟩;obtain⟨Y,ar⟩:∃A,A=H1.new (.cells (r.cells (.slice cb r.j.length ao)) (.t yO)):=⟨_,rfl⟩;have k2:K pm H1 Y:=by rw[ar];exact K.new g1 _
 have g2:=k2.h;have bn:Y.get J=some (.cells (r.cells (.slice cb r.j.length ao)) (.t yO)):=by rw[ar,aU];exact b4
 have bo:=k2.some g1 ck;have n2:Y.next=J+1:=by rw[ar,aU];rfl
 have bp:=K.trans bm k2;have cl:pm.may P=true:=g.may (by omega);have cm:pm.may J=true:=g.may (by omega);have bq:∀l' aa,K pm H aa->aK 8 l'=some (.bool true)->bl .ret l' aa:=λl' aa ay l6=>hQ _ _ _ (by simp[l6];exact ay);simp only[bQ.cells]at ar bn|-;simp[g.pick,g.make,ptr,<-aS,<-ax,  <-aU,<-ar,-Bz,-Bq];refine aq.of (az:=[]) (by simp) (by simp) (M6 q.tooU g2.dD) ?_;rintro _ Y ⟨rfl,rfl⟩;simp[bo,bx,bB,-By,-Bp];refine aq.of (az:=[.agg #[.slice aN ab.a.length aO,.slice aQ ab.rows.length aR]]) (by simp) (by simp) (FD q.tooU pm _ g2 _ ab (bj.ext (bp.ext g))) ?_;rintro _ H3 ⟨k3,f3⟩;have g3:=k3.h;have bs:=k3.some g2 bo;have cn:=k3.some g2 bn;obtain⟨u1,u2,rfl,bt,bu,cp,cq⟩:=f3;obtain⟨af,ag,rfl,_⟩:=bt.at;obtain⟨ai,aj,rfl,_⟩:=bu.rows.at;obtain⟨Q,ak⟩:∃A,A=H3.put P (.cells [.slice af ab.cut.a.length ag,.slice ai ab.cut.rows.length aj] (.t yN)):=⟨_,rfl⟩;have bw:K pm H Q:=by rw[ak];exact aF.put (K.trans bp k3) (by omega) bs (by simp) _
 have g4:=bw.h;have aV:Q.get P=some (.cells [.slice af ab.cut.a.length ag,.slice ai ab.cut.rows.length aj] (.t yN)):=by rw[ak];exact b1
 have cr:Q.get J=some _:=(by rw[ak,a7 (by omega)]:Q.get J=H3.get J).trans cn;have aW:hC Q Y.next (.agg #[.slice af ab.cut.a.length ag,.slice ai ab.cut.rows.length aj]) ab.cut:=by
  rw[ak];exact hC.put ⟨_,_,rfl,bt,bu,cp,cq⟩ (by omega) _
 have n4:Q.next=H3.next:=by rw[ak];rfl
 have R:=ab.NL;have Z:∀i,i<ab.cut.rows.length->(ab.cut.row i).j.length<=1000:=λi L=>by
  obtain⟨r,_,e⟩:=k1.1 (eB (aI.rowAt L):ab.cut.row i∈(ab.rows.take 6).map bQ.cut);rw[<-e];simp only[bQ.cut,pG,k4];omega
 have bA:∀r∈ab.cut.rows,r.j.length<=1000:=λr hr=>by
  obtain⟨r,_,rfl⟩:=k1.1 hr;simp only[bQ.cut,pG,k4];omega
 have ct:ab.cut.rows.length<=6:=by simp[aI.cut];omega
 obtain⟨l,hl⟩:∃l,l=ab.cut:=⟨_,rfl⟩;rw[<-hl]at ak aV aW R Z bA ct;have bC:=aW.e;simp[bs,setCells,cl,<-hl,<-ak,aV,bx,bB,-Bx,-Bo];refine aq.of (az:=[.agg #[.slice af l.a.length ag,.slice ai l.rows.length aj]]) (by simp) (by simp) (NN q.totg g4 bC R Z) ?_;rintro _ H5 ⟨k5,h5⟩;have z:=k5.h;have bD:=K.trans bw k5;have cu:=k5.some g4 aV;have cv:=k5.some g4 cr;have n5:=k5.next;have n3:=k3.next;obtain⟨pa,al⟩:∃c,c=H5.next:=⟨_,rfl⟩;have bE:pm.may pa=true:=z.may (by omega);have bF:∀x,(H5.new x).get pa=some x:=λx=>by rw[al];exact b4
 rcases h5 with⟨hm,rfl⟩ | ⟨hm,p,a,u,rfl,OP,Dh,hu,hL⟩
 ·obtain⟨b,a⟩:∃A,A=(H5.new (.cells [.int .i64 0,.string ⟨#[]⟩,.slice none 0 0,.slice none 0 0,.slice none 0 0] (.t T.xt))).put pa (.cells [.int .i64 0,.string ⟨#[]⟩,.slice none 0 0,.slice none 0 0,.slice none 0 0] (.t T.xt)):=⟨_,rfl⟩;have c:K pm H5 b:=by rw[a,al];exact ic z _ _ (by simp)
  simp[z.pick,z.make,ptr, <-al,bF,bE,<-a,setCells,-Bm];exact bq _ _ (K.trans bD c) (by simp)
 ·obtain⟨_,_,_,rfl,ak,ar,ax⟩:=id hu;obtain⟨cw,cx,e1,_⟩:=ak.1.ex;obtain⟨cz,cA,e2,_⟩:=ar.1.ex;obtain⟨cB,cC,e3,_⟩:=ax.1.ex;subst e1 e2 e3;obtain⟨H6,aX⟩:∃A,A=(H5.new (.cells [.int .i64 0,.string ⟨#[]⟩,.slice none 0 0,.slice none 0 0,.slice none 0 0] (.t T.xt))).put pa (.cells [.int .i64 a.st,aA a.val,.slice cw a.x.length cx,.slice cz a.d.length cA,.slice cB a.r.length cC] (.t T.xt)):=⟨_,rfl⟩;have k6:K pm H5 H6:=by rw[aX,al];exact ic z _ _ (by simp)
  have g6:=k6.h;have cD:=K.trans bD k6;have cE:=k6.some z cu;have cF:=k6.some z cv;have n6:H6.next=pa+1:=by rw[aX,al];rfl
  have bG:=Dh.ext (k6.ext z);have ak:p<H5.next:=by obtain⟨_,_,h,_⟩:=id Dh;exact z.lt h
  have cG:pm.may p=true:=g4.may OP;have ak:=R.n;simp[z.pick,z.make,ptr, <-al,bF,bE,<-aX,setCells,-Bw,-Bl];refine aq.of (az:=[.pointer (some ⟨p,0,none⟩)]) (by simp) (by simp) (NM q g6 bG (by omega) (by omega) Z) ?_;rintro _ H7 ⟨k7,D,rfl,ak,bH⟩;have g7:=k7.h;have cH:=K.trans cD k7;have cI:=k7.some g6 cE;have bI:=k7.some g6 cF;have n7:=k7.next;have al:D<H7.next:=by obtain⟨_,_,h,_⟩:=id bH;exact g7.lt h
  have bJ:pm.may D=true:=g6.may ak;obtain⟨q7,aY⟩:∃c,c=H7.next:=⟨_,rfl⟩;obtain⟨H8,aB⟩:∃A,A=H7.new (.cells [aA r.name,.int .i64 r.kind,.slice cb r.j.length ao,aA r.rhs,aA r.kp] (.n 5)):=⟨_,rfl⟩;have k8:K pm H7 H8:=by rw[aB];exact K.new g7 _
  have g8:=k8.h;have cJ:H8.get q7=some (.cells [aA r.name,.int .i64 r.kind,.slice cb r.j.length ao,aA r.rhs,aA r.kp] (.n 5)):=by rw[aB,aY];exact b4
  have bK:=K.trans cH k8;simp[bI,bx,bB,setCells,g7.pick,g7.make,<-aY,<-aB,-Bv,-Bk];have cK:mr H8 (.agg #[.slice none 0 0,.slice (some ⟨q7,0,none⟩) 1 1]) ⟨[],[r]⟩:=by
   refine⟨_,_,rfl,⟨none,0,rfl,bg _,λ_=>rfl,λa e=>by cases e⟩,⟨_,_,rfl,bg _,λe=>(by cases e),λa e=>?_⟩⟩;cases e;refine⟨q7,0,_,rfl,.inr cJ,by simp,λi L=>⟨_,?_,r,.slice cb r.j.length ao,?_,rfl,eg.imp bk (bK.ext g) λ_ _ _ h=>h⟩⟩
   ·obtain rfl:i=0:=by simpa using L
    simp[bx];rfl
   ·obtain rfl:i=0:=by simpa using L
    rfl
  refine aq.of (az:=[.agg #[.slice none 0 0,.slice (some ⟨q7,0,none⟩) 1 1]]) (by simp) (by simp) (FD q.tooU pm _ g8 _ ⟨[],[r]⟩ cK) ?_;rintro _ H9 ⟨k9,f9⟩;have g9:=k9.h;have n8:H8.next=q7+1:=by rw[aB,aY];rfl
  have n9:=k9.next;have bL:=k9.some g8 (k8.some g7 bI);have cL:=k9.some g8 (k8.some g7 cI);obtain⟨_,_,rfl,ak,cM⟩:=f9.e;obtain⟨_,_,e,_⟩:=id ak;subst e;obtain⟨rb,_,e,q0,q1⟩:=cM;subst e;obtain⟨ak,cN⟩:∃ak,rb=some ak:=by
   cases rb with
   | none=>exact absurd (q0 rfl) (by simp[aI.cut])
   | some a=>exact⟨a,rfl⟩
  subst cN;obtain⟨_,_,y,_,rfl,_,hy,cP,_,cQ⟩:=q1 _ rfl;obtain⟨cs,aZ,_,_,cR,rfl,au⟩:=cQ 0 (by simp[aI.cut]);cases cR;obtain⟨M,N,e,_⟩:=id au;subst e;rw[Nat.zero_mul,Nat.add_zero]at aZ;obtain⟨s,a1⟩:∃s,s=r.cut:=⟨_,rfl⟩;rw[<-a1]at aZ au;have a6:s.j.length<=1000:=by rw[a1];simp[bQ.cut];omega
  obtain⟨F,G⟩:∃A,A=H9.put J (.cells (s.cells (.slice M s.j.length N)) (.t yO)):=⟨_,rfl⟩;have ak:=K.trans bK k9;have kA:K pm H F:=by rw[G];exact aF.put ak (by omega) bL (by simp) _
  have S:=kA.h;have a8:F.get J=some (.cells (s.cells (.slice M s.j.length N)) (.t yO)):=by rw[G];exact b1
  have cS:F.get P=_:=(by rw[G,a7 (by omega)]:F.get P=H9.get P).trans cL;have aD:Ext H7 H9:=(K.trans k8 k9).ext g7;have x6:Ext H6 H9:=λb y h=>aD _ _ (k7.some g6 h);have al:(⟨[],[r]⟩:aI).cut.rows.length=1:=rfl;obtain⟨ao,ak⟩:=pg aZ;simp only[bQ.cells]at G a8 ak;simp[al,hy,cP,ao,<-ak,bx,bB,bL,setCells,cm,<-G,a8,-Bu,-Bj];have ak:∀(q' n0:Nat),ey H7 q' n0 l->J<n0->J≠q'->ey F q' n0 l:=λq' n0 h v B=>by
   rw[G];exact(h.ext aD).put v B _
  have bM:=ak p _ (bG.ext (k7.ext g6)) (by omega) (by omega);have cT:=ak D _ bH (by omega) (by omega);have aE:d' (l.fE s):=by
   refine⟨R.n,by simp[aI.fE];omega,R.c,λb a=>?_⟩
   rcases l2.1 a with a | a
   ·exact R.r b a
   ·obtain rfl:=lY.1 a;rw[a1];simp only[bQ.cut,k4,pG];refine⟨by omega,by omega,λc hc=>?_⟩;obtain⟨c,_,rfl⟩:=k1.1 hc;simp only[k4];omega
  have ak:dk F 0 (.slice M s.j.length N) s.j.length 2 (jm s.j):=by
   rw[G];exact(au.put (by omega) _ λ_ _ _ h=>h).mono (Nat.zero_le _) λ_ _ _ h=>h
  refine aq.of (az:=[.pointer (some ⟨p,0,none⟩),.agg (s.cells (.slice M s.j.length N)).toArray]) (by simp) (by simp[bQ.cells]) (F6 q.tozd S cG bM aE Z a6 ak) ?_;rintro _ HB tR;have kB:=tR.jx;have U:=kB.h;have nB:=kB.next;obtain⟨_,ok,d,rfl,RP,cU⟩:=tR.row S bM;obtain⟨y1,_,_,rfl,av,ak,al⟩:=id RP.2.1;obtain⟨bN,bO,e1,_⟩:=av.1.ex;obtain⟨bP,bR,e2,_⟩:=ak.1.ex;obtain⟨bS,bT,e3,_⟩:=al.1.ex;subst e1 e2 e3;have nA:F.next=H9.next:=by rw[G];rfl
  obtain⟨pc,aG⟩:∃c,c=HB.next:=⟨_,rfl⟩;have cV:pm.may pc=true:=U.may (by omega);have cW:∀x,(HB.new x).get pc=some x:=λx=>by rw[aG];exact b4
  obtain⟨O,aH⟩:∃A,A=(HB.new (.cells [.int .i64 0,.string ⟨#[]⟩,.slice none 0 0,.slice none 0 0,.slice none 0 0] (.t T.Bg))).put pc (.cells [.int .i64 d.st,aA d.val,.slice bN d.x.length bO,.slice bP d.d.length bR,.slice bS d.r.length bT] (.t T.Bg)):=⟨_,rfl⟩;have kC:K pm HB O:=by rw[aH,aG];exact ic U _ _ (by simp)
  have w:=kC.h;have cX:O.get pc=some (.cells [.int .i64 d.st,aA d.val,.slice bN d.x.length bO,.slice bP d.d.length bR,.slice bS d.r.length bT] (.t T.Bg)):=by rw[aH];exact b1
  have a_:=kC.some U (kB.some S (by omega) cS);have cY:=kC.some U (kB.some S (by omega) a8);have bU:=kB.trans (K.jx kC);have bV:ey O D H6.next l:=(cT.jx kB S (by omega) (by omega)).ext (kC.ext U);have bW:∀b y,Y.next<=b->Q.get b=some y->O.get b=some y:=λb y k h=>by
   have:=g4.lt h;have a:=aD _ _ (k7.some g6 (k6.some z (k5.some g4 h)));exact bU.some S (by omega) (by rw[G,a7 (by omega)];exact a)
  simp[U.pick,U.make,ptr, <-aG,cW,cV,<-aH,setCells,-uy,-r1];obtain⟨V,hz⟩:∃V,V=O.next:=⟨_,rfl⟩;have kU:K pm O (O.up 5):=(K.refl w).up 5;have bX:=λj=>(by rw[hz];exact w.none j:(O.up 5).get (V+j)=none);have cZ:=(by rw[hz];exact w.J:(O.up 5).get V=none);have ak:=w.lt a_;refine cy.of w.ah rfl ?_;rw[<-hz];simp[b7,bX,cZ,a_,bx,bB,-uy,-r1];refine eM kU.h (az:=[.pointer (some ⟨D,0,none⟩)]) (by simp[bX]) (by simp) (by simp) rfl (λdC g'=>FU q.torn g' (bV.ext (kU.ext w)) (by omega) (by omega) Z) ?_;rintro _ HD kD ow;have gD:=kD.h;obtain⟨d1,d2,rfl⟩:=ow.form;have bY:=K.trans kU kD;have bZ:∀j,j<5->HD.get (V+j)=none:=λj hj=>by rw[hz];exact kD.res w j hj
  have nD:=kD.next;have nU:(O.up 5).next=V+5:=by rw[hz];rfl
  have c3:∀{aa},(∀b y,Y.next<=b->Q.get b=some y->aa.get b=some y)->iL aa (.agg #[.slice af l.a.length ag,.slice ai l.rows.length aj]) l:=λe=>(bC.jY e).ab;simp[-uy,-r1];refine gS gD (az:=[.agg #[.slice d1 l.a.length l.a.length,.slice d2 l.rows.length l.rows.length],.agg #[.slice af l.a.length ag,.slice ai l.rows.length aj]]) (by simp[bZ]) (by simp) (by simp) rfl (λdC g'=>FM q.torn g' R.ok ow.e.ab (c3 λb y k h=>bY.some w (bW b y k h))) ?_;rintro _ HE kE rfl;have ab:=K.trans bY kE;have gE:=ab.h;have ak:∀j,j<5->HE.get (V+j)=none:=λj hj=>(kE.get _ (by omega)).trans (bZ j hj);have ba:=λo=>eG (ah:=pm.ah) (ok:=pm.ok) (o:=o) (b:=D) (by have:=g.ah;omega);have al:du [D] [P]=true:=fq (by omega);simp[ak,ed,ba,al,cj,cd, dM, show P<V by omega,-r1];have c4:=ab.some w a_;have b0:=ab.some w cY;have c5:=ab.some w cX;have b2:=bV.ext (ab.ext w);have c7:∀b y,Y.next<=b->Q.get b=some y->HE.get b=some y:=λb y k h=>ab.some w (bW b y k h);have P:dk HE 0 (.slice M s.j.length N) s.j.length 2 (jm s.j):=by
   have h:dk F H8.next (.slice M s.j.length N) s.j.length 2 (jm s.j):=by
    rw[G];exact au.put (by omega) _ λ_ _ _ h=>h
   exact(h.qt (aa:=HE) (λb y k e=>ab.some w (bU.some S (by omega) e)) λ_ _ _ h=>h).mono (Nat.zero_le _) λ_ _ _ h=>h
  simp[b0,bx,bB,-Bt,-Bs];refine aq.of (az:=[.pointer (some ⟨D,0,none⟩),.agg (s.cells (.slice M s.j.length N)).toArray]) (by simp) (by simp[bQ.cells]) (F6 q.tozd gE bJ b2 aE Z a6 P) ?_;rintro _ HF tQ;have kF:=tQ.jx;have gF:=kF.h;have P:=kF.next;obtain⟨_,_,_,rfl,RQ,_⟩:=tQ.row gE b2;obtain⟨rfl,rfl⟩:=RP.same RQ;obtain⟨_,_,_,rfl,P,ak,al⟩:=id RQ.2.1;obtain⟨b3,b6,e1,_⟩:=P.1.ex;obtain⟨b8,b9,e2,_⟩:=ak.1.ex;obtain⟨b_,ca,e3,_⟩:=al.1.ex;subst e1 e2 e3;obtain⟨pe,aJ⟩:∃c,c=HF.next:=⟨_,rfl⟩;have P:=kE.next;have c9:pm.may pe=true:=gF.may (by omega);have c_:∀x,(HF.new x).get pe=some x:=λx=>by rw[aJ];exact b4
  obtain⟨HG,aK⟩:∃A,A=(HF.new (.cells [.int .i64 0,.string ⟨#[]⟩,.slice none 0 0,.slice none 0 0,.slice none 0 0] (.t T.Bh))).put pe (.cells [.int .i64 d.st,aA d.val,.slice b3 d.x.length b6,.slice b8 d.d.length b9,.slice b_ d.r.length ca] (.t T.Bh)):=⟨_,rfl⟩;have kG:K pm HF HG:=by rw[aK,aJ];exact ic gF _ _ (by simp)
  have gG:=kG.h;have P:HG.get pe=some (.cells [.int .i64 d.st,aA d.val,.slice b3 d.x.length b6,.slice b8 d.d.length b9,.slice b_ d.r.length ca] (.t T.Bh)):=by rw[aK];exact b1
  have an:=kF.trans (K.jx kG);have d:O.next=pc+1:=by rw[aH,aG];rfl
  have da:=an.some gE (by omega) c4;have db:=an.some gE (by omega) b0;have d:=an.some gE (by omega) c5;simp[gF.pick,gF.make,ptr,bB,<-aJ,c_,c9,<-aK,setCells,d,P,bz,-Br];have cf:∀i,i<(l.fE s).rows.length->((l.fE s).row i).j.length<=1000:=λi L=>by
   rcases l2.1 (eB (aI.rowAt L):(l.fE s).row i∈l.rows++[s]) with h | h
   ·exact bA _ h
   ·rw[lY.1 h];exact a6
  obtain⟨d,O,dc,dd,de⟩:∃d O,ey HG D O d/\d' d/\∀i,i<d.rows.length->(d.row i).j.length<=1000:=by
   rcases RQ.2.2 with⟨_,_,h⟩ | ⟨_,_,h⟩
   ·exact⟨_,_,h.ext (kG.ext gF),R,Z⟩
   ·exact⟨_,_,h.ext (kG.ext gF),aE,cf⟩
  simp[-BC,-uz];refine aq.of (az:=[aA ah,.int .i64 20]) (by simp) (by simp) (pX q.tooU (n:=20) (by omega)) ?_;rintro _ HG ⟨rfl,rfl⟩;simp[-BB,-uz];refine aq.of (az:=[aA up,.int .i64 20]) (by simp) (by simp) (pX q.tooU (n:=20) (by omega)) ?_;rintro _ HG ⟨rfl,rfl⟩;simp[-uz];refine aq.of (az:=[.pointer (some ⟨D,0,none⟩),.int .i64 0,aA (ah.take 20),aA (up.take 20)]) (by simp) (by simp) (LV q.totg gG bJ dc dd de (by simp;omega) (by simp;omega)) ?_;rintro _ HI hI;have kI:fO pm D HG HI:=by
   rcases hI with⟨_,ay,_⟩ | ⟨_,_,_,t⟩
   ·exact K.jx ay
   ·exact t.jx
  have gI:=kI.h;have d:=kI.next;have d:HG.next=pe+1:=by rw[aK,aJ];rfl
  have d:=kI.some gG (by omega) da;have df:=kI.some gG (by omega) db;have O:∀b y,Y.next<=b->Q.get b=some y->HI.get b=some y:=λb y k h=>by
   have:=g4.lt h;exact kI.some gG (by omega) (an.some gE (by omega) (c7 b y k h))
  have P:=aW.jY O;simp[d,bx,bB,-BA,-Bn];refine aq.of (az:=[.agg #[.slice af l.a.length ag,.slice ai l.rows.length aj]]) (by simp) (by simp) (L2 q.r gI P R Z) ?_;rintro _ HJ ⟨kJ,bc,br,vb,rfl,aw⟩;have W:=kJ.h;have d:=kJ.next;have dh:∀b i,c6 (aP b i)=true:=λb i=>by unfold aP;split<;>rfl
  have d:∀b i,(aP b i).cells=#[aP b i]:=λb i=>by unfold aP;split<;>rfl
  obtain⟨E,aL⟩:∃c,c=HJ.next:=⟨_,rfl⟩;have cg:pm.may E=true:=W.may (by omega);have di:∀x,(HJ.new x).get E=some x:=λx=>by rw[aL];exact b4
  obtain⟨f,aM⟩:∃A,A=(HJ.new (.cells [.slice none 0 0,.slice none 0 0] (.t T.rZ))).put E (.cells [aP bc l.a.length,aP br l.rows.length] (.t T.rZ)):=⟨_,rfl⟩;have kK:K pm HJ f:=by rw[aM,aL];exact ic W _ _ (by simp)
  have gK:=kK.h;have d:f.next=E+1:=by rw[aM,aL];rfl
  have bd:f.get E=some (.cells [aP bc l.a.length,aP br l.rows.length] (.t T.rZ)):=by rw[aM];exact b1
  have bf:=kK.some W (kJ.some gI df);simp[W.pick,W.make,ptr, <-aL,di,cg, dh,<-aM,setCells,-Bi,-r0];have ch:K pm H f:=by
   have a:aF pm H.next F HB:=kB.up (by omega) (by have:=kA.next;omega);have b:aF pm H.next HE HG:=an.up (by omega) (by omega);have c:aF pm H.next HG HI:=kI.up (by omega) (by omega);have d:aF pm H.next HB HE:=(K.trans kC ab).mono (by omega);have g:aF pm H.next HI f:=(K.trans kJ kK).mono (by omega);exact aF.trans kA (((a.trans d).trans b).trans (c.trans g))
  have hZ:∀(m:ad) (c1 c2:Value) (I:aI) (d:Nat) (ae:bb),K pm H m->f.next<=m.next->m.get E=some (.cells [c1,c2] (.t T.rZ))->iL m (.agg #[c1,c2]) I->I.ok->ey m p d I->I.a.length<=1000->I.rows.length<=1000->(∀i,i<I.rows.length->(I.row i).j.length<=1000)->
   Sub [(10,.pointer (some ⟨p,0,none⟩)),(18,.pointer (some ⟨E,0,none⟩))] ae->wp X pm (.code C.r0) ae m [] bl:=by
   intro m c1 c2 I d ae t _ r8 aa ad aq aA aC aF d;have a:=t.h;simp only[Sub]at d;obtain⟨aI,aP,_⟩:=d;obtain⟨c,i⟩:∃V,V=m.next:=⟨_,rfl⟩;have r:K pm m (m.up 5):=(K.refl a).up 5;have d:(m.up 5).next=c+5:=by rw[i];rfl
   have u:=λj=>(by rw[i];exact a.none j:(m.up 5).get (c+j)=none);have aT:=(by rw[i];exact a.J:(m.up 5).get c=none);simp;refine cy.of a.ah rfl ?_;rw[<-i];simp[b7,u,aT,aI,aP,r8,bx,bB];refine eM r.h (az:=[.pointer (some ⟨p,0,none⟩)]) (by simp[u]) (by simp) (by simp) rfl (λdC g'=>FU q.torn g' (aq.ext (r.ext a)) aA aC aF) ?_;rintro _ HM n ow;have gM:=n.h;obtain⟨d1,d2,rfl⟩:=ow.form;have d:=n.next;have H:∀j,j<5->HM.get (c+j)=none:=λj hj=>by rw[i];exact n.res a j hj
   simp;refine gS gM (az:=[.agg #[.slice d1 I.a.length I.a.length,.slice d2 I.rows.length I.rows.length],.agg #[c1,c2]]) (by simp[H]) (by simp) (by simp) rfl (λdC g'=>FM q.torn g' ad ow.e.ab (aa.ext ((K.trans r n).ext a))) ?_;rintro _ HN T rfl;have a:∀j,j<5->HN.get (c+j)=none:=λj hj=>(T.get _ (by omega)).trans (H j hj);have ba:=λo=>eG (ah:=pm.ah) (ok:=pm.ok) (o:=o) (b:=p) (by have:=g.ah;omega);have d:du [p] [E]=true:=fq (by omega);have i:E<c:=by omega
   simp[a,ed,ba,d,cj,cd, dM,i];exact bq _ _ (K.trans t (K.trans r (K.trans n T))) (by simp)
  have bh:∀b y,b≠D->HB.get b=some y->f.get b=some y:=λb y k h=>by
   have:=U.lt h;have a:=ab.some w (kC.some U h);exact kK.some W (kJ.some gI (kI.some gG k (an.some gE k a)))
  rcases RP.2.2 with⟨e,_,_⟩ | ⟨e,_,S0⟩
  ·subst e;have c:=cU rfl;have d:ey f p (p+1) l:=by
    obtain⟨u1,u2,v,B⟩:=Dh;have a:∀b y,b≠J->H5.get b=some y->f.get b=some y:=λb y k h=>by
     have:=z.lt h;have g:=aD _ _ (k7.some g6 (k6.some z h));exact bh b y (by omega) (c.some S (by rw[G,a7 k];exact g))
    exact⟨u1,u2,a _ _ (by omega) v,B.jY λb y k h=>a b y (by omega) h⟩
   simp[-r0];exact hZ f _ _ l _ _ ch (bg _) bd (aw.e.ab.ext (kK.ext W)) R.ok d (by omega) (by omega) Z (by simp)
  ·subst e;have d:=gK;obtain⟨_,_,_,o4⟩:=aw.b;have ah:Ext HJ f:=kK.ext W;obtain⟨C,o,gs,X,bg⟩:∃C o,lg f (aP br l.rows.length) 5 l.rows.length C o/\(∀c,o=some c->c=br)/\c0 C 5 l.rows.length (λi=>(l.row i).cells (aP (vb i) (l.row i).j.length)):=by
    by_cases e:l.rows.length=0
    ·exact⟨[],none,⟨e,rfl,by unfold aP;rw[aT e]⟩,λc h=>(by cases h),⟨by simp[e],λj hj=>by omega⟩⟩
    ·obtain⟨ae,v,B⟩:=aw.w (by omega);exact⟨ae,some br,⟨cO (by omega),B.1,ah _ _ v⟩,λc h=>(by cases h;rfl),B⟩
   obtain⟨xs,o⟩:∃xs:List Value,xs=[aA s.name,.int .i64 s.kind,.slice M s.j.length N,aA s.rhs,aA s.kp]:=⟨_,rfl⟩;obtain⟨y1,av⟩:∃y,y=f.next:=⟨_,rfl⟩;obtain⟨m,aa⟩:∃A,A=f.new (.cells xs (.n 5)):=⟨_,rfl⟩;have r:K pm f m:=by rw[aa];exact K.new gK _
   have d:=r.h;have j:m.next=y1+1:=by rw[aa,av];rfl
   have bz:m.get y1=some (.cells xs (.n 5)):=by rw[aa,av];exact b4
   obtain⟨HM,aq,az,bQ,m,b5⟩:=zy d (cc:=80) (n:=H.next) (gs.ext λc y _ e=>r.some gK e) (xs:=xs) (by rw[o];rfl) (by rw[o];rfl) (by decide) (by omega) (by decide) (by omega) (λc hc=>⟨by have:=X c hc;omega,g.may (by have:=X c hc;omega)⟩);rw[j]at aq az m b5;have d:=r.some gK bd;have bb:=(b5 E (by omega) λe=>by have:=X _ e;omega).trans d;have d:=r.some gK bf;obtain⟨a,t⟩:∃A,A=HM.put E (.cells [aP bc l.a.length,.slice (some ⟨y1+1,0,none⟩) (l.rows.length+1) (l.rows.length+1)] (.t T.rZ)):=⟨_,rfl⟩;have kN:K pm H a:=by
    have u:aF pm H.next f HM:=aF.trans (r.mono (by omega)) bQ;rw[t];exact aF.put (aF.trans ch u) (by omega) bb (by simp) _
   have b7:a.get E=some (.cells [aP bc l.a.length,.slice (some ⟨y1+1,0,none⟩) (l.rows.length+1) (l.rows.length+1)] (.t T.rZ)):=by rw[t];exact b1
   have ad:∀b y,b≠br->b≠E->f.get b=some y->a.get b=some y:=λb y v B h=>by
    have:=gK.lt h;rw[t,a7 B,b5 b (by omega) λe=>v (X _ e)];exact r.some gK h
   have d:setCells [.string ⟨#[]⟩,.int .i64 0,.slice none 0 0,.string ⟨#[]⟩,.string ⟨#[]⟩] 0 xs=some xs:=by rw[o];rfl
   have d:xs.length=5:=by rw[o];rfl
   have j:xs.take 5=xs:=by rw[o];rfl
   rw[<-o]at bf;simp[bd,bf,bx,bB, d,j,gK.pick,gK.make,<-av,<-aa,bz,aq,bb,setCells,cg,  <-t,-r0];have cd:a.get (y1+1)=some (.cells (C++xs) (.n 5)):=by rw[t,a7 (by omega)];exact az.2.2
   have cj:=bg.snoc d;have d:F.next=H9.next:=nA;have cy:dk a H8.next (.slice M s.j.length N) s.j.length 2 (jm s.j):=by
    have h:dk F H8.next (.slice M s.j.length N) s.j.length 2 (jm s.j):=by
     rw[G];exact au.put (by omega) _ λ_ _ _ h=>h
    refine h.qt (λb y k e=>?_) λ_ _ _ h=>h;have:=S.lt e;exact ad b y (by omega) (by omega) (bh b y (by omega) (kB.some S (by omega) e))
   have cO:iL a (.agg #[aP bc l.a.length,.slice (some ⟨y1+1,0,none⟩) (l.rows.length+1) (l.rows.length+1)]) (l.fE s):=by
    refine⟨_,_,rfl,?_,?_⟩
    ·show gC a (aP bc l.a.length) l.a;exact c0.yA (λh=>by
      obtain⟨ae,v,B⟩:=aw.c h;exact⟨ae,ad _ _ (by omega) (by have:=W.lt v;omega) (ah _ _ v),B⟩) λi L=>⟨_,aI.jv L,rfl⟩
    ·show c8 a _ (l.rows++[s]).length 5 _;rw[ot];refine⟨_,_,rfl,λi L=>⟨y1+1,0,_,C++xs,_,rfl,cd,rfl,by rw[Nat.zero_add];exact cj.row L,?_⟩⟩;by_cases c:i=l.rows.length
     ·subst c;exact⟨s,.slice M s.j.length N,by show(l.rows++[s])[l.rows.length]? = some s;simp,by rw[aT rfl,o];rfl,cy.aP⟩
     ·have b:i<l.rows.length:=by simp at L;omega
      refine⟨l.row i,aP (vb i) (l.row i).j.length,by show(l.rows++[s])[i]? = some (l.row i);rw[hi b];exact aI.rowAt b,by rw[aC c],?_⟩;exact c0.yA (λh=>by
       obtain⟨ae,v,B⟩:=aw.v i b h;exact⟨ae,ad _ _ (by have:=o4 i b;omega) (by have:=W.lt v;omega) (ah _ _ v),B⟩) λay b=>⟨_,by rw[il,eu b];rfl,rfl⟩
   have d:ey a p F.next (l.fE s):=by
    obtain⟨u1,u2,v,B⟩:=S0;have x:∀b y,b≠D->HB.get b=some y->a.get b=some y:=λb y k e=>by
     have:=U.lt e;exact ad b y (by omega) (by omega) (bh b y k e)
    exact⟨u1,u2,x _ _ (by omega) v,B.jY λb y k e=>x b y (by omega) e⟩
   exact hZ a _ _ (l.fE s) _ _ kN (by rw[t];show f.next<=HM.next;omega) b7 cO aE.ok d (by show l.a.length<=1000;omega) (by simp[aI.fE];omega) cf (by simp)
end Go.Dam.C
namespace Go.Dam.C
open Go Go.Dam
section
variable{O:b0}{W:World}
def wh(W:World)(v:Value):Prop:=∃a b c d e,v=.agg #[a,b,c,d,e]/\hs a/\n4 b/\tf W c/\hs d/\hs e
def ti(H:ad)(w:Value)(r:bQ):Prop:=∃a,w=.agg (r.cells a).toArray/\eg H a r.j.length 2 λi a=>∃c,r.j[i]? = some c/\a=c.cells
theorem ti.ext{H aa:ad}{w:Value}{r:bQ}(h:ti H w r)(e:Ext H aa):ti aa w r:=by
 obtain⟨a,b,h⟩:=h;exact⟨a,b,eg.imp h e λ_ _ _ h=>h⟩
theorem wh.lift{v:Value}(h:wh W v):∃r:bQ,ek O W v λH u=>ti H u r:=by
 obtain⟨_,_,_,_,_,rfl,d,e,f,g,i⟩:=h;obtain⟨j,k⟩:=f.lift (O:=O);obtain⟨a,rfl⟩:=d;obtain⟨n,rfl⟩:=e;obtain⟨b,rfl⟩:=g;obtain⟨c,rfl⟩:=i;refine⟨⟨a.data.toList,n,j,b.data.toList,c.data.toList⟩,λγ H e=>?_⟩;obtain⟨f,g,d,i,j,l,m,o⟩:=k γ H e;exact⟨f,g,.agg #[.string a,.int .i64 n,d,.string b,.string c],i,j,l,.agg (.cons (.str _) (.cons (.int _ _) (.cons m (.cons (.str _) (.cons (.str _) .nil))))),d,rfl,o⟩
end
theorem L'{X:ar}{pm:Perm}{H:ad}(a:q' X)(g:bs pm H){v w:Value}{ab:aI}{r:bQ}(ah up:ByteArray)(b:mr H v ab)(c:ti H w r):Call X pm F.n6 [v,w,.string ah,.string up] H λr aa=>K pm H aa/\r=.bool true:=by
 obtain⟨_,rfl,h⟩:=c;exact Ma (ah:=ah.data.toList) (up:=up.data.toList) a g b h
end Go.Dam.C
