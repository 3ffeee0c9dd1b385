/- What the functions of the program compute, for every input. -/
import Derived.Test.YtkjakecbclpfpaaGreatDoorCLawB
import Derived.Test.YtkjakecbclpfpaaGreatDoorCDamA
namespace Go.Dam.C
open Go Go.Dam
variable{X:aA}{pm:Perm}{H ab bX ai:ae}{n:Nat}
section
variable{P:bM}{aW:Nat}{aj:Nat->Nat}{lc bJ:Value}{T:bu}
theorem Y7{a ad k t:Nat}(b:∀k,k<P.n->aV (T.M a k) t)(av:k<P.n)(c:ad<P.n)(d:T.M a ad≠0):aV (eR T a ad k) (2*t):=by
 unfold eR;split
 ·exact dY (Ti (b ad c) d) (by omega)
 ·exact DV (r2 (b k av)) (b ad c) d
def mC(T:bu)(a ad i:Nat):bu:={T with M:=λx y=>if x=a then eR T a ad y else if x<i then(T.X a ad).M x y else T.M x y}
theorem aab(e:fC X)(z:bl pm ai)(A:pm.ah<=aW)(p:aW<=ai.next)(B:oj P)(aP:cT P aW ai aj lc bJ T){t:Nat}(C:t<=100000){a ad:Nat}(aI:a<P.m)(D:ad<P.n)(q:∀k,k<P.n->aV (T.M a k) t)(r:T.M a ad≠0)
 {w:Value} (E:b4 ai w (T.M a ad)) {aD:List Fr} {L:bn} (H:aF 0 L=some (.pointer (some ⟨aj 0,0,none⟩))) (H:aF 1 L=some (.int .i64 (a:Int))) (H:aF 2 L=some (.int .i64 (ad:Int))) (H:aF 6 L=some (.slice (some ⟨aj (5+a),0,none⟩) P.n P.n)) (H:aF 7 L=some w) (H:aF 25 L=some (.int .i64 (P.n:Int))) (H:aF 26 L=some (.int .i64 0)) {Q:cl}
 (F:∀aU ab,aC pm aW ai ab->cT P aW ab aj lc bJ (mC T a ad 0)->Sub [(0,.pointer (some ⟨aj 0,0,none⟩)),(1,.int .i64 (a:Int)),(2,.int .i64 (ad:Int)),(6,.slice (some ⟨aj (5+a),0,none⟩) P.n P.n)] aU->wp X pm (.res .normal) aU ab aD Q):
 wp X pm (.code Ej) L ai aD Q:=by
 have H:=B.n;have f:t<=gZ:=a8 C (by decide);have s:=ej (ok:=pm.ok) (o:=pm.num) (a8 A (aP.ge (5+a) (by omega)));simp[-K8]
 refine er (σ:=Unit) P.n (λ_ _=>[(0,.pointer (some ⟨aj 0,0,none⟩)),(1,.int .i64 (a:Int)),(2,.int .i64 (ad:Int)),(6,.slice (some ⟨aj (5+a),0,none⟩) P.n P.n),(7,w)])
  (λk _ ab=>aC pm aW ai ab/\cT P aW ab aj lc bJ (n5 T a k (eR T a ad))) () (by simp_all) ⟨aC.refl z,aP.congr (λ_ _=>rfl) (λ_ _=>rfl) (λ_ _=>rfl) λ_ _ _ _=>by simp[n5]⟩ ?_ ?_
 ·rintro k _ G b ⟨c,g⟩;have d:=c.q;obtain⟨z,h,_,A⟩:=g.row a aI;obtain⟨o,t,i⟩:=A k b;rw[So]at i;have u:=E.up c;have v:=q ad D;have j:=q k b;have x:k<z.length:=by omega
  by_cases l:k=ad
  ·subst l;simp[-Le];refine al.of (aq:=[.int .i64 1]) (ml e.toEL d (n:=1) (by omega) (by omega)) ?_;rintro k _ ⟨a,q⟩;simp[-Ld];refine al.of (aq:=[k,w]) (AZ e.toEL a.q q.of (u.up a).of (by decide) (v.bo f) r) ?_;rintro _ _ ⟨m,_,rfl,y⟩;obtain⟨_,rfl,_⟩:=id y;have k:=a.trans m;have a:=k.some d h;obtain⟨q,z⟩:=(g.k d k).DI m.q aI b y a;simp[a,b,s,x];refine⟨(c.k k (a8 p c.next)).trans q,z.congr (λ_ _=>rfl) (λ_ _=>rfl) (λ_ _=>rfl) λa y _ _=>Ac (by simp[eR]) a y⟩
  ·have q:¬((k:Int)=(ad:Int)):=by omega
   simp[q,h,t,b,-Lh,-La];refine al.of (aq:=[o]) (hA e.toEL d i.of (j.bo f)) ?_;rintro _ G ⟨rfl,rfl⟩;by_cases m:T.M a k=0
   ·simp[jh,m];refine⟨c,g.congr (λ_ _=>rfl) (λ_ _=>rfl) (λ_ _=>rfl) λa y _ _=>Sp ?_ a y⟩;rw[eR,aw l,m];grind
   ·simp[jh,m,h,t,b,-Lg];refine al.of (aq:=[o]) (A7 e.toEL d i.of (j.bo f)) ?_;rintro i _ ⟨a,m⟩;simp[-Lf];refine al.of (aq:=[i,w]) (AZ e.toEL a.q m.of (u.up a).of ((r2 j).bo f) (v.bo f) r) ?_;rintro _ _ ⟨k,_,rfl,n⟩;obtain⟨_,rfl,_⟩:=id n;have e:=a.trans k;have a:=e.some d h;obtain⟨f,h⟩:=(g.k d e).DI k.q aI b n a;simp[a,b,s,x];refine⟨(c.k e (a8 p c.next)).trans f,h.congr (λ_ _=>rfl) (λ_ _=>rfl) (λ_ _=>rfl) λx y _ _=>Ac (by simp[eR,l]) x y⟩
 ·rintro _ _ ⟨b,c⟩;simp;refine F _ _ b (c.congr (λ_ _=>rfl) (λ_ _=>rfl) (λ_ _=>rfl) λx y _ _=>?_) (by simp);show(if x=a then eR T a ad y else if x<0 then _ else T.M x y)=if x=a/\y<P.n then eR T a ad y else T.M x y
  grind
end
section
variable{P:bM}{aW:Nat}{aj:Nat->Nat}{lc bJ:Value}{T:bu}
theorem Qw{a ad i:Nat}(h:i=a∨T.M i ad=0)(x y:Nat):(mC T a ad (i+1)).M x y=(mC T a ad i).M x y:=by
 show(if x=a then eR T a ad y else if x<i+1 then(T.X a ad).M x y else T.M x y)=if x=a then eR T a ad y else if x<i then(T.X a ad).M x y else T.M x y
 by_cases e:x=a
 ·simp[e]
 ·by_cases b:x=i
  ·subst b;have h:T.M x ad=0:=h.resolve_left e;simp only[e,if_false,Nat.lt_irrefl,qq,if_true];show(if x=a then _ else if y=ad then T.M x ad*eR T a ad ad else T.M x y+T.M x ad*eR T a ad y)=T.M x y;rw[aw e,h];split
   ·rename_i c;subst c;rw[h];grind
   ·grind
  ·by_cases a:x<i
   ·simp[e,a,show x<i+1 by omega]
   ·simp[e,a,show ¬x<i+1 by omega]
theorem Qv{a ad i:Nat}(b:i≠a):(mC T a ad i).M i=T.M i:=by
 funext y;show(if i=a then eR T a ad y else if i<i then(T.X a ad).M i y else T.M i y)=_;simp[b]
theorem YW{a ad i:Nat}:(mC T a ad i).M a=eR T a ad:=by
 funext y;show(if a=a then eR T a ad y else _)=_;simp
theorem YX{a ad i w:Nat}(b:i≠a)(x y:Nat)(d:y<w):(mC T a ad (i+1)).M x y=(n5 (mC T a ad i) i w (qY (mC T a ad i) a ad i)).M x y:=by
 show(if x=a then eR T a ad y else if x<i+1 then(T.X a ad).M x y else T.M x y)=if x=i/\y<w then qY (mC T a ad i) a ad i y else(mC T a ad i).M x y
 by_cases c:x=i
 ·subst c;simp only[b,if_false,qq,if_true,d,and_self];rw[qY,Qv b,YW];show(if x=a then _ else if y=ad then T.M x ad*eR T a ad ad else T.M x y+T.M x ad*eR T a ad y)=_;rw[aw b]
 ·simp only[c,false_and,if_false];show _=if x=a then eR T a ad y else if x<i then(T.X a ad).M x y else T.M x y
  by_cases a:x<i
  ·simp[a,show x<i+1 by omega]
  ·simp[a,show ¬x<i+1 by omega]
theorem RR(l:fC X)(V:bl pm ai)(m:pm.ah<=aW)(u:aW<=ai.next)(n:oj P)(aP:cT P aW ai aj lc bJ T){t:Nat}(au:1<=t)(W:t<=90000)(f:∀i k,i<P.m->k<P.n->aV (T.M i k) t){a ad:Nat}(aI:a<P.m)(c:ad<P.n)(G:T.M a ad≠0):
 Call X pm F.qM [.pointer (some ⟨aj 0,0,none⟩),.int .i64 (a:Int),.int .i64 (ad:Int)] ai λ_ ab=>aC pm aW ai ab/\cT P aW ab aj lc bJ (T.X a ad):=by
 refine Call.W l.qM rfl λ_ Y=>?_;have av:=n.n;have ax:=n.m;have ay:t<=gZ:=a8 W (by decide);have g:0<P.m:=by omega
 have H:0<P.n:=by omega
 have I:=aP.t;rw[dA (b:=aj 4) g]at I;obtain⟨_,Z,_,m3⟩:=aP.m g;have aa:=m3 a aI;obtain⟨_,p1,_,p3⟩:=aP.row a aI;obtain⟨_,ae,af⟩:=p3 ad c;simp[I,Z,aa,aI,-Lb];simp[p1,ae,c,-Ej,-K'];refine aab l V m u n aP (t:=t) (by omega) aI c (λk w=>f a k aI w) G af (by simp) (by simp) (by simp) (by simp) (by simp) (by simp) (by simp) (λ_ _ u1 J L=>?_);simp only[yc]at L;obtain⟨M,j1,j2,j6,_⟩:=L;have N:=J.t;rw[dA (b:=aj 4) g]at N;have O:∀i x y,x<P.m->y<P.n->aV ((mC T a ad i).M x y) (4*t+1):=λi x y h e=>by
  have b:=λy e=>Y7 (T:=T) (a:=a) (ad:=ad) (k:=y) (λk w=>f a k aI w) e c G;show aV (if x=a then eR T a ad y else if x<i then(T.X a ad).M x y else T.M x y) _;split
  ·exact dY (b y e) (by omega)
  ·rename_i ag;split
   ·show aV (if x=a then _ else if y=ad then T.M x ad*eR T a ad ad else T.M x y+T.M x ad*eR T a ad y) _;rw[aw ag];split
    ·exact dY (jk (f x ad h c) (b ad c)) (by omega)
    ·exact dY (vi (f x y h e) (jk (f x ad h c) (b y e))) (by omega)
   ·exact dY (f x y h e) (by omega)
 simp[M,N,-K9,-K7]
 refine er (σ:=Unit) P.m (λ_ _=>[(0,.pointer (some ⟨aj 0,0,none⟩)),(1,.int .i64 (a:Int)),(2,.int .i64 (ad:Int)),(6,.slice (some ⟨aj (5+a),0,none⟩) P.n P.n),(64,.slice (some ⟨aj 4,0,none⟩) P.m P.m)])
  (λi _ ab=>aC pm aW ai ab/\cT P aW ab aj lc bJ (mC T a ad i)) () (by simp[M,j1,j2,j6]) ⟨u1,J⟩ ?_ ?_
 ·rintro i _ s b ⟨d,j⟩;have p:=d.q;have v:=a8 u d.next;obtain⟨_,z,_,A⟩:=j.m g;have B:=A i b;obtain⟨_,C,_,D⟩:=j.row i b;obtain⟨E,F,q⟩:=D ad c;simp[z,B,b,C,F,c,aR,-Ek,-xX];by_cases k:i=a
  ·subst k;simp;refine al.not ?_;simp[aR];exact⟨d,j.congr (λ_ _=>rfl) (λ_ _=>rfl) (λ_ _=>rfl) λx y _ _=>Qw (.inl rfl) x y⟩
  ·have K:¬((i:Int)=(a:Int)):=by omega
   have Q:((i:Int)==(a:Int))=false:=by simpa using K
   simp[Q,-Ek,-xX];have r:(mC T a ad i).M i ad=T.M i ad:=by rw[Qv k]
   refine al.of (aq:=[E]) (hA l.toEL p q.of ((O i i ad b c).bo (a8 (show 4*t+1<=400000 by omega) (by decide)))) ?_;rintro _ s ⟨rfl,rfl⟩;by_cases o:T.M i ad=0
   ·simp[jh,r,o,];exact⟨d,j.congr (λ_ _=>rfl) (λ_ _=>rfl) (λ_ _=>rfl) λx y _ _=>Qw (.inr o) x y⟩
   ·simp[jh,r,o, -xX];refine aaa l p m v n j (t:=4*t+1) (by omega) (O i) aI b k c q (u64:=.slice (some ⟨aj 4,0,none⟩) P.m P.m) (by simp) (by simp) (by simp) (by simp) (by simp) (by simp) (by simp) (by simp) (by simp) λ_ ab a R S=>?_;simp;exact⟨by simpa using S,d.trans a,R.congr (λ_ _=>rfl) (λ_ _=>rfl) (λ_ _=>rfl) λx y _ e=>YX k x y e⟩
 ·rintro _ p ⟨z,k⟩;have d:=z.q;have A:=k.t;rw[dA (b:=aj 2) g,dA (b:=aj 3) H]at A;obtain⟨B,C,_,X⟩:=k.r g;obtain⟨D,E,_,c3⟩:=k.c H;have ab:=X a aI;have ah:=c3 ad c;have Q:a<B.length:=by omega
  have R:ad<D.length:=by omega
  have r4:B[a]=.int .i64 (T.rows a:Int):=by
   have:=en Q;rw[ab]at this;exact(jH this).symm
  have c4:D[ad]=.int .i64 (T.a ad:Int):=by
   have:=en R;rw[ah]at this;exact(jH this).symm
  have ai:=d.lt A;have ak:=d.lt C;have al:=d.lt E;have an:=k.ne (i:=2) (j:=3) (by omega) (by omega) (by decide);have ao:=λo=>ej (ok:=pm.ok) (o:=o) (a8 m (aP.ge 2 (by omega)));have aq:=λo=>ej (ok:=pm.ok) (o:=o) (a8 m (aP.ge 3 (by omega)));simp;refine cx.of d.ah rfl ?_;obtain⟨b,q⟩:∃b,b=(p.up 28).put (aj 2) (.cells (B.set a (.int .i64 (T.a ad:Int))) (.n 1)):=⟨_,rfl⟩;have S:b.get (aj 3)=some (.cells D (.n 1)):=by rw[q,a6 (Ne.symm an)];exact E
  have ar:∀t,b.get (p.next+t)=none:=λt=>by rw[q,a6 (by omega)];exact d.none t
  simp[b8,d.none,d.O,<-q,S,ar,A,C, aI,E, c,ao,aq,Q,R,r4,c4,aR,  b3,bZ,ai,ak,al,];have r:K pm p (p.up 28):=(K.refl d).up 28;obtain⟨F,U⟩:=(k.k d r).aa0 r.q aI (v:=T.a ad) (r.some d C);rw[<-q]at F U;obtain⟨u4,t4⟩:=U.kq F.q c (v:=T.rows a) S;refine Y _ _ _ ?_;simp;refine⟨((z.k r (a8 u z.next)).trans F).trans u4,t4.congr (λ_ _=>rfl) (λ_ _=>rfl) (λ_ _=>rfl) λx y h _=>?_⟩;show(if x=a then eR T a ad y else if y=ad then _ else _)=if x=a then eR T a ad y else if x<P.m then(T.X a ad).M x y else T.M x y
  by_cases s:x=a
  ·simp[s]
  ·rw[aw s,aw s,aL h];show _=if x=a then _ else _
   rw[aw s]
end
def dO:Option Nat->Int
 | none=>-1
 | some k=>k
theorem tW.load{P:bM}{b k:Nat}{v:Nat->Rat}(h:tW H P b k v){x:Nat}(e:x<k):∃ch p q c,H.get b=some (.cells ch (.n 3))/\bB ch (x*3) 3=some [p,q,c]/\mj H P v x p q c:=by
 obtain⟨ch,f,_,g⟩:=h;obtain⟨p,q,c,a,b,d,i⟩:=g x e;refine⟨ch,p,q,c,f,?_,i⟩;have e:x*3+2<ch.length:=by omega
 unfold bB;rw[cJ,hd (show x*3+3<=ch.length by omega),cond_true];rw[Cg (show x*3<ch.length by omega),Cg (show x*3+1<ch.length by omega),Cg e];rw[en (by omega)]at a b d;cases a;cases b;cases d;rfl
section
variable{P:bM}{aW:Nat}{aj:Nat->Nat}{lc bJ:Value}{T:bu}
theorem yn{p:Nat->Bool}{a:Nat->Nat}{k:Nat}(h:p k=false):eL p a (k+1)=eL p a k:=by
 rw[eL];cases eL p a k<;>simp[h]
theorem ym{p:Nat->Bool}{a:Nat->Nat}{k b:Nat}(h:eL p a k=some b):b<k:=(j' h).1
theorem WY(o:fC X)(w:bl pm ai)(s:oj P)(aP:cT P aW ai aj lc bJ T)(Z:dT P T){t:Nat}(N:t<=100000)(O:js P T t){a:Nat}(aI:a<P.m){aM:Int}(ag:aM=1∨aM=-1):
 Call X pm F.sb [.pointer (some ⟨aj 0,0,none⟩),.int .i64 (a:Int),.int .i64 aM] ai λr ab=>K pm ai ab/\r=.int .i64 (dO (lU P T a aM)):=by
 refine Call.W o.sb rfl λ_ hQ=>?_;have ao:=s.n;have ao:=s.m;have Q:t<=gZ:=a8 N (by decide);have s:0<P.m:=by omega
 have L:=aP.t;rw[dA (b:=aj 4) s]at L;obtain⟨_,m1,_,m3⟩:=aP.m s;have ah:=m3 a aI;obtain⟨p,q⟩:∃p:Nat->Bool,p=λk=>decide (T.M a k≠0)&&can P T.v (T.a k) (aM*cg (T.M a k)):=⟨_,rfl⟩;simp[L,m1,ah,aI,-KF]
 refine er (σ:=Unit) P.n (λk _=>[(0,.pointer (some ⟨aj 0,0,none⟩)),(1,.int .i64 (a:Int)),(2,.int .i64 aM),(7,.int .i64 (dO (eL p T.a k))),(16,.slice (some ⟨aj (5+a),0,none⟩) P.n P.n)])
  (λk _ ab=>K pm ai ab) () (by simp[eL,dO]) (K.refl w) ?_ ?_
 ·rintro k _ R f r;have c:=r.q;have s:0<P.n:=by omega
  have L:0<P.n+P.m:=by omega
  have t:=aP.k w r;have u:=t.t;rw[dA (b:=aj 1) L,dA (b:=aj 3) s]at u;obtain⟨_,x,_,p3⟩:=t.row a aI;obtain⟨S,ak,h⟩:=p3 k f;obtain⟨_,y,_,c3⟩:=t.c s;have al:=c3 k f;have z:=Z.c k f;obtain⟨aq,va,vb,vc,A,v2,v3⟩:=(t.v L).load z;have U:=O.M a k aI f;have V:=c.lt u;have W:=c.lt A;have Y:=c.lt y;have t:=c.lt x
  have an:∀(l:ae),K pm ai l->p k=true->∀L:bn,aF 0 L=some (.pointer (some ⟨aj 0,0,none⟩))->aF 1 L=some (.int .i64 (a:Int))->aF 2 L=some (.int .i64 aM)->aF 7 L=some (.int .i64 (dO (eL p T.a k)))->aF 8 L=some (.int .i64 (k:Int))->
   aF 16 L=some (.slice (some ⟨aj (5+a),0,none⟩) P.n P.n)->aF 17 L=some (.int .i64 (P.n:Int))->aF 18 L=some (.int .i64 (k:Int))->∀t:cl,(∀Z ab,K pm ai ab->Sub [(18,.int .i64 (k:Int)),(17,.int .i64 (P.n:Int)),(0,.pointer (some ⟨aj 0,0,none⟩)),(1,.int .i64 (a:Int)),(2,.int .i64 aM),(7,.int .i64 (dO (eL p T.a (k+1)))),(16,.slice (some ⟨aj (5+a),0,none⟩) P.n P.n)] Z->t .normal Z ab)->
   wp X pm (.code qK) L l [] t:=by
   intro l B C L m D E i F G H I t J;have e:=B.q;have t:=aP.k w B;have v:=t.t;rw[dA (b:=aj 3) s]at v;obtain⟨_,M,_,d3⟩:=t.c s;have aa:=d3 k f;have ad:=e.lt v;have ae:=e.lt M;simp;refine cx.of e.ah rfl ?_;have d:K pm ai (l.up 19):=B.trans ((K.refl e).up 19)
   cases j:eL p T.a k with
   | none=>
     rw[j]at i;simp[b8,e.none,e.O, i,F,    dO,b3,bZ,  aR];exact J _ _ d (by simp[m,D,E,G,H,I,eL,j,C,dO,])
   | some b=>
     rw[j]at i;have a:=ym j;have p:b<P.n:=by omega
     have s:=d3 b p;by_cases a:T.a k<T.a b
     ·simp[b8,e.none,e.O,m,i,F,v,M,aa,s,f,p,dO,b3,bZ,   ad,ae,a];exact J _ _ d (by simp[m,D,E,G,H,I,eL,j,C,dO, a])
     ·simp[b8,e.none,e.O,m,i,F,v,M,aa,s,f,p,dO,b3,bZ,   ad,ae,a];exact J _ _ d (by simp[m,D,E,G,H,I,i,eL,j,C,dO, a])
  simp[x,ak,f,-qK];refine cx.of c.ah rfl ?_;simp[b8, c.O,-qK];have d:K pm R (R.up 24):=(K.refl c).up 24;refine fG d.q (aq:=[S]) (by simp[c.none]) rfl (λaf g=>g' g (hA o.toEL g (h.up d).of (U.bo Q))) ?_;rintro _ _-⟨rfl,rfl⟩;by_cases n:T.M a k=0
  ·have b:(cg (T.M a k)==0)=true:=by simp[jh,n]
   simp[b,aR,c.none,-qK];refine d'.not (by simp[c.none]) ?_;simp[aR,c.none,-qK];refine d'.not (by simp[c.none]) ?_;simp[aR,c.none,b3,bZ,  cU];exact⟨by rw[yn (by rw[q];simp[n])],r.trans d⟩
  ·have m:(cg (T.M a k)==0)=false:=by simp[jh,n]
   have p:=DK ag n;have D:wr .i64 (aM*cg (T.M a k))=aM*cg (T.M a k):=cE;simp[m,c.none,u,A,y,al,f,z,v2,-qK];refine cY d.q (aq:=[S]) (by simp[c.none]) rfl (λaf g=>g' g (hA o.toEL g (h.up d).of (U.bo Q))) ?_;rintro _ _-⟨rfl,rfl⟩;simp[c.none,D,-qK];refine fG (aI:=by simp[bA]) d.q (aq:=[.agg #[va,vb,vc],.int .i64 (aM*cg (T.M a k))]) (by simp[c.none]) rfl (λaf g=>NV o g (v3.k d) (O.v _ z) (a8 N (by decide))) ?_;rintro _ l b rfl;have e:=b.res c;have i:=r.trans (d.trans b);have j:=λm=>jT (h.up d) (d.some c u) m;have v:=λm=>jT (h.up d) (d.some c A) m;have B:=λm=>jT (h.up d) (d.some c y) m;have b:=λm=>jT (h.up d) (d.some c x) m
   cases C:can P T.v (T.a k) (aM*cg (T.M a k)) with
   | false=>
     simp[e,b3,bZ, V,W,Y, cU,j,v,B,];exact⟨by rw[yn (by rw[q];simp[C])],i⟩
   | true=>
     simp[e,b3,bZ, V,W,Y, cU,j,v,B, -qK];exact an _ i (by rw[q];simp[n,C]) _ (by simp) (by simp) (by simp) (by simp) (by simp) (by simp) (by simp) (by simp) _ λ_ ab a b=>by
      simp;exact⟨by simpa using b,a⟩
 ·rintro _ _ a;simp;refine hQ _ _ _ ?_;simp[lU,q];exact a
end
section
variable{P:bM}{aW:Nat}{aj:Nat->Nat}{lc bJ:Value}{T:bu}
theorem ack(n:fC X)(d:bl pm ai)(h:oj P)(aP:cT P aW ai aj lc bJ T)(u:dT P T){t:Nat}(v:t<=100000)(w:js P T t):
 Call X pm F.sh [.pointer (some ⟨aj 0,0,none⟩)] ai λr ab=>K pm ai ab/\r=.int .i64 (dO (lH P T)):=by
 refine Call.W n.sh rfl λ_ x=>?_;have z:=h.n;have z:=h.m;have i:=aP.t;obtain⟨q,h,y⟩:=qA (aj 2) P.m;rw[h]at i;obtain⟨p,o⟩:∃p:Nat->Bool,p=λh=>decide (off P T.v (T.rows h)≠0):=⟨_,rfl⟩;simp[i,-LJ]
 refine er (σ:=Unit) P.m (λk _=>[(0,.pointer (some ⟨aj 0,0,none⟩)),(3,.int .i64 (dO (eL p T.rows k))),(9,.slice q P.m P.m)])
  (λk _ ab=>K pm ai ab) () (by simp[eL,dO]) (K.refl d) ?_ ?_
 ·rintro k _ _ e f;obtain rfl:=y (by omega);have y:=f.q;have q:0<P.n+P.m:=by omega
  have g:0<P.m:=by omega
  have h:=aP.k d f;have r:=h.t;rw[dA (b:=aj 1) q]at r;obtain⟨_,z,_,i⟩:=h.r g;have A:=i k e;have i:=u.r k e;obtain⟨aq,u,B,C,D,E,F⟩:=(h.v q).load i;simp[z,A,e,r,D,E,i,-LK];refine al.of (aI:=by simp[bA]) (aq:=[.agg #[u,B,C]]) (HS n y F (w.v _ i) (a8 v (by decide))) ?_;rintro _ _ ⟨s,rfl⟩;have a:=f.trans s;have e:=s.q;have e:=aP.k d a;have j:=e.t;rw[dA (b:=aj 2) g]at j;obtain⟨_,t,_,G⟩:=e.r g;by_cases d:off P T.v (T.rows k)=0
  ·have b:(off P T.v (T.rows k)==0)=true:=by simpa using d
   simp[b,aR];exact⟨by rw[yn (by grind)],a⟩
  ·have l:(off P T.v (T.rows k)==0)=false:=by simpa using d
   have m:p k=true:=by rw[o];simp[d]
   cases c:eL p T.rows k with
   | none=>
     simp[l,dO,aR];exact⟨by simp[eL,c,m],a⟩
   | some b=>
     have d:=ym c;have e:b<P.m:=by omega
     have f:=G b e;by_cases d:T.rows k<T.rows b
     ·simp[l,dO, j,t,f,e,d];exact⟨by simp[eL,c,m,d],a⟩
     ·simp[l,dO, j,t,f,e,d];exact⟨by simp[eL,c,m,d],a⟩
 ·rintro _ _ a;simp;refine x _ _ _ ?_;simp[lH,o];exact a
end
section
variable{P:bM}{aW:Nat}{aj:Nat->Nat}{lc bJ:Value}{T:bu}{c:Nat->Rat}
theorem aa6(q:Rat):-1<=cg q/\cg q<=1:=by
 unfold cg;split
 ·omega
 ·split<;>omega
def Ay(P:bM)(c:Nat->Rat)(T:bu):Option Nat->Int
 | none=>0
 | some k=>eF P c T k
theorem Wl(l:fC X)(m:bl pm ai)(L:oj P)(aP:cT P aW ai aj lc bJ T)(ix:dT P T){t:Nat}(ht:t<=100000)(hs:js P T t){w:Value}(hw:jM ai w P.n (red P c T)){h0:Nat}(an:h0<=30000000)(O:∀k,k<P.n->aV (red P c T k) h0):
 Call X pm F.r' [.pointer (some ⟨aj 0,0,none⟩),w] ai λr ab=>K pm ai ab/\r=.tuple #[.int .i64 (dO (enters P c T)),.int .i64 (Ay P c T (enters P c T))]:=by
 refine Call.W l.r' rfl λ_ Q=>?_;have au:=L.n;have au:=L.m;have y:h0<=gZ:=a8 an (by decide);obtain⟨R,g,rfl,S⟩:=hw.ex;obtain⟨p,s⟩:∃p:Nat->Bool,p=λk=>decide (red P c T k≠0)&&can P T.v (T.a k) (-cg (red P c T k)):=⟨_,rfl⟩;have U:enters P c T=eL p T.a P.n:=by rw[s];rfl
 simp[-Kv,-Kx]
 refine er (σ:=Unit) P.n (λk _=>[(0,.pointer (some ⟨aj 0,0,none⟩)),(1,.slice R P.n g),(6,.int .i64 (dO (eL p T.a k))),(9,.slice R P.n g)])
  (λk _ ab=>K pm ai ab) () (by simp[eL,dO]) (K.refl m) ?_ ?_
 ·rintro k _ V e h;have a:=h.q;have t:0<P.n:=by omega
  have W:0<P.n+P.m:=by omega
  have z:=aP.k m h;have u:=z.t;rw[dA (b:=aj 1) W,dA (b:=aj 3) t]at u;obtain⟨v,w,_,_,Y,rfl,L,y3,y4,R⟩:=S k e;have Z:=h.some m L;have n:=R.up h;obtain⟨_,A,_,L⟩:=z.c t;have ao:=L k e;have B:=ix.c k e;obtain⟨aq,va,vb,vc,C,v2,v3⟩:=(z.v W).load B;have aa:=O k e;have ad:=a.lt u;have af:=a.lt C;have ag:=a.lt A;have z:=a.lt Z
  have ar:∀(o:ae),K pm ai o->p k=true->∀L:bn,aF 0 L=some (.pointer (some ⟨aj 0,0,none⟩))->aF 1 L=some (.slice (some ⟨v,w,none⟩) P.n g)->aF 6 L=some (.int .i64 (dO (eL p T.a k)))->aF 7 L=some (.int .i64 (k:Int))->
   aF 9 L=some (.slice (some ⟨v,w,none⟩) P.n g)->aF 10 L=some (.int .i64 (P.n:Int))->aF 11 L=some (.int .i64 (k:Int))->∀z:cl,(∀R ab,K pm ai ab->Sub [(11,.int .i64 (k:Int)),(10,.int .i64 (P.n:Int)),(0,.pointer (some ⟨aj 0,0,none⟩)),(1,.slice (some ⟨v,w,none⟩) P.n g),(6,.int .i64 (dO (eL p T.a (k+1)))),(9,.slice (some ⟨v,w,none⟩) P.n g)] R->z .normal R ab)->
   wp X pm (.code qJ) L o [] z:=by
   intro o D E L q F i G H I J z M;have c:=D.q;have g:=aP.k m D;have x:=g.t;rw[dA (b:=aj 3) t]at x;obtain⟨_,N,_,d3⟩:=g.c t;have ae:=d3 k e;have ah:=c.lt x;have ak:=c.lt N;simp;refine cx.of c.ah rfl ?_;have d:K pm ai (o.up 19):=D.trans ((K.refl c).up 19)
   cases j:eL p T.a k with
   | none=>
     rw[j]at i;simp[b8,c.none,c.O, i,G,    dO,b3,bZ,  aR];exact M _ _ d (by simp[q,F,H,I,J,eL,j,E,dO,])
   | some b=>
     rw[j]at i;have g:=ym j;have p:b<P.n:=by omega
     have t:=d3 b p;by_cases g:T.a k<T.a b
     ·simp[b8,c.none,c.O,q,i,G,x,N,ae,t,e,p,dO,b3,bZ,   ah,ak,g];exact M _ _ d (by simp[q,F,H,I,J,eL,j,E,dO, g])
     ·simp[b8,c.none,c.O,q,i,G,x,N,ae,t,e,p,dO,b3,bZ,   ah,ak,g];exact M _ _ d (by simp[q,F,H,I,J,i,eL,j,E,dO, g])
  simp[Z,y3,y4,e,-qJ];refine cx.of a.ah rfl ?_;simp[b8, a.O,-qJ];have d:K pm V (V.up 23):=(K.refl a).up 23;refine fG d.q (aq:=[Y]) (by simp[a.none]) rfl (λal f=>g' f (hA l.toEL f (n.up d).of (aa.bo y))) ?_;rintro _ _-⟨rfl,rfl⟩;by_cases r:red P c T k=0
  ·have b:(cg (red P c T k)==0)=true:=by simp[jh,r]
   simp[b,aR,a.none,-qJ];refine d'.not (by simp[a.none]) ?_;simp[aR,a.none,-qJ];refine d'.not (by simp[a.none]) ?_;simp[aR,a.none,b3,bZ,  cU];exact⟨by rw[yn (by rw[s];simp[r])],h.trans d⟩
  ·have g:(cg (red P c T k)==0)=false:=by simp[jh,r]
   have p:cg (red P c T k)=1∨cg (red P c T k)=-1:=(jg r).imp (·.2) (·.2);have F:wr .i64 (-cg (red P c T k))=-cg (red P c T k):=cE;simp[g,a.none,u,C,A,ao,e,B,v2,-qJ];refine cY d.q (aq:=[Y]) (by simp[a.none]) rfl (λal f=>g' f (hA l.toEL f (n.up d).of (aa.bo y))) ?_;rintro _ _-⟨rfl,rfl⟩;simp[a.none,F,-qJ];refine fG (aI:=by simp[bA]) d.q (aq:=[.agg #[va,vb,vc],.int .i64 (-cg (red P c T k))]) (by simp[a.none]) rfl (λal f=>NV l f (v3.k d) (hs.v _ B) (a8 ht (by decide))) ?_;rintro _ o b rfl;have i:=b.res a;have j:=h.trans (d.trans b);have q:=λb=>jT (n.up d) (d.some a u) b;have x:=λb=>jT (n.up d) (d.some a C) b;have D:=λb=>jT (n.up d) (d.some a A) b
   cases E:can P T.v (T.a k) (-cg (red P c T k)) with
   | false=>
     simp[i,b3,bZ, ad,af,ag, cU,q,x,D];exact⟨by rw[yn (by rw[s];simp[E])],j⟩
   | true=>
     simp[i,b3,bZ, ad,af,ag, cU,q,x,D,-qJ];exact ar _ j (by rw[s];simp[r,E]) _ (by simp) (by simp) (by simp) (by simp) (by simp) (by simp) (by simp) _ λ_ ab a b=>by
      simp;exact⟨by simpa using b,a⟩
 ·rintro _ f a;simp[-Kw];rw[<-U]
  cases d:enters P c T with
  | none=>
    simp[dO];refine Q _ _ _ ?_;simp[d,dO,Ay];exact a
  | some b=>
    have e:b<P.n:=ym (U▸d);obtain⟨_,_,_,_,h,rfl,g,i,j,k⟩:=S b e;have n:=a.some m g;simp[dO,n,i,j,e,-Ky];refine al.of (aq:=[h]) (hA l.toEL a.q (k.up a).of ((O b e).bo y)) ?_;rintro _ f ⟨rfl,rfl⟩;have e:wr .i64 (-cg (red P c T b))=-cg (red P c T b):=by
     have:=aa6 (red P c T b);exact cE
    simp[e];refine Q _ _ _ ?_;simp[d,dO,Ay,eF];exact a
end
section
variable{P:bM}{aW:Nat}{aj:Nat->Nat}{lc bJ:Value}{T:bu}
theorem aaf(m:Perm)(a:Array Value)(k:IntKind)(i:Int):dj m [.agg a,.int k i]=[]:=rfl
theorem Qh{t:Nat}(d:js P T t)(e:dT P T){ad:Nat}(f:ad<P.n){aM:Int}:∀{i:Nat},i<=P.m->∀q,(dW P T ad aM i).e4=some q->aV q (4*t+2):=by
 have g:∀x w r,x<P.n+P.m->room P T.v x w=some r->aV r (2*t+1):=λx w r j h=>by
  have a:=d.v x j;unfold room at h;split at h
  ·rename_i u b;cases h;split at b
   ·exact xN (a.up u b) a.v
   ·cases b
  ·split at h
   ·rename_i l c;cases h;split at c
    ·exact xN a.v (a.ah l c)
    ·cases c
   ·cases h
 intro i
 induction i with
 | zero=>
   intro _ q h;exact dY (g _ _ _ (e.c ad f) h) (by omega)
 | succ i ih=>
   intro _ q h;rw[dW]at h;have ih:=ih (by omega);split at h
   ·exact ih q h
   ·rename_i k;split at h
    ·exact ih q h
    ·rename_i r m;have a:aV (r/dH (T.M i ad)) (4*t+2):=by
      have n:=g _ _ _ (e.r i (by omega)) m;have o:aV (dH (T.M i ad)) (2*t+1):=by
       have:=dY (d.M i ad (by omega) f) (show t<=2*t+1 by omega);unfold dH;split
       ·exact r2 this
       ·exact this
      have:=DV n o (by have:=lg k;grind);exact dY this (by omega)
     unfold hy.add at h;split at h
     ·cases h;exact a
     ·split at h
      ·cases h;exact a
      ·exact ih q h
theorem aaL{t:Nat}{v:Nat->Rat}{x:Nat}(a:Bf P v x t){w:Int}{r:Rat}(h:room P v x w=some r):aV r (2*t+1):=by
 unfold room at h;split at h
 ·rename_i u b;cases h;split at b
  ·exact xN (a.up u b) a.v
  ·cases b
 ·split at h
  ·rename_i l c;cases h;split at c
   ·exact xN a.v (a.ah l c)
   ·cases c
  ·cases h
theorem Yw(j:fC X)(c:bl pm ai)(po:oj P)(aP:cT P aW ai aj lc bJ T)(ix:dT P T){t:Nat}(ht:t<=100000)(A:js P T t){ad:Nat}(k:ad<P.n){aM:Int}(aJ:aM=1∨aM=-1):
 Call X pm F.sc [.pointer (some ⟨aj 0,0,none⟩),.int .i64 (ad:Int),.int .i64 aM] ai λr ab=>K pm ai ab/\∃f,r=.tuple #[f,.int .i64 (dO (dW P T ad aM P.m).ind)]/\fv ab f (dW P T ad aM P.m).e4:=by
 refine Call.W j.sc rfl λ_ hQ=>?_;have ay:=po.n;have ay:=po.m;have J:t<=gZ:=a8 ht (by decide);have av:4*t+2<=gZ:=a8 (show 4*t+2<=500000 by omega) (by decide);have ax:2*t+1<=gZ:=a8 (show 2*t+1<=500000 by omega) (by decide);have ay:0<P.n:=by omega
 have M:0<P.n+P.m:=by omega
 have af:=aP.t;rw[dA (b:=aj 1) M,dA (b:=aj 3) ay]at af;obtain⟨_,g,B,c3⟩:=aP.c ay;have aK:=c3 ad k;have ag:=ix.c ad k;obtain⟨aq,va,vb,vc,v1,v2,v3⟩:=(aP.v M).load ag;have aN:=c.lt af;have aO:=c.lt v1;have aQ:=c.lt g;simp[-Eg];refine cx.of c.ah rfl ?_;have kU:K pm ai (ai.up 25):=(K.refl c).up 25;simp[b8,c.none,c.O,af,g,aK,k,ag,v1,v2,-Eg];refine cY (aI:=by simp[bA]) kU.q (aq:=[.agg #[va,vb,vc],.int .i64 aM]) (by simp[c.none]) rfl (λaz v=>Sg j v (v3.k kU) (A.v _ ag) (a8 ht (by decide))) ?_;rintro f1 H1 N ay;have x1:=N.res c;have af:=kU.trans N;obtain⟨aK,aS,aT⟩:=qA (aj 4) P.m;have ag:=af.some c aP.t;rw[aS]at ag;simp[x1,b3,bZ,aN,aO,aQ,fT,cU,aaf,ag,-KG]
 refine er (σ:=Value) P.m (λi f=>[(0,.pointer (some ⟨aj 0,0,none⟩)),(1,.int .i64 (ad:Int)),(2,.int .i64 aM),(8,f),(9,.int .i64 (dO (dW P T ad aM i).ind)),(10,.int .i64 ((dW P T ad aM i).pt:Int)),(41,.slice aK P.m P.m)])
  (λi f ab=>K pm ai ab/\fv ab f (dW P T ad aM i).e4) f1 (by simp[dW,dO]) ⟨af,by simpa [dW]using ay⟩ ?_ ?_
 ·rintro i f H2 d ⟨O,hf⟩;obtain rfl:=aT (by omega);have a:=O.q;have C:0<P.m:=by omega
  have D:=aP.k c O;obtain⟨_,m1,_,m3⟩:=D.m C;have af:=m3 i d;obtain⟨_,p1,_,p3⟩:=D.row i d;obtain⟨E,ag,w⟩:=p3 ad k;have F:=A.M i ad d k;simp[m1,af,d,p1,ag,k,-KL,-KI];refine al.of (aq:=[E]) (hA j.toEL a w.of (F.bo J)) ?_;rintro _ H2 ⟨rfl,rfl⟩;by_cases l:T.M i ad=0
  ·simp[jh,l];have e:dW P T ad aM (i+1)=dW P T ad aM i:=by rw[dW,aL l]
   rw[e];exact⟨_,⟨rfl,rfl,rfl⟩,O,hf⟩
  ·have Q:=D.t;rw[dA (b:=aj 1) M,dA (b:=aj 2) C]at Q;obtain⟨_,r1,_,r3⟩:=D.r C;have aU:=r3 i d;have R:=ix.r i d;obtain⟨_,wa,wb,wc,w1,w2,w3⟩:=(D.v M).load R;have q0:=a.lt Q;have q1:=a.lt w1;have q2:=a.lt r1;have D:=DK aJ l;have aW:wr .i64 (aM*cg (T.M i ad))=aM*cg (T.M i ad):=cE;simp[jh,l,-AI];refine cx.of a.ah rfl ?_;have e:K pm H2 (H2.up 19):=(K.refl a).up 19;simp[b8,a.none,a.O,Q,r1,aU,d,R,w1,w2,-AI];refine cY e.q (aq:=[E]) (by simp[a.none]) rfl (λaz v=>g' v (hA j.toEL v (w.up e).of (F.bo J))) ?_;rintro _ _-⟨rfl,rfl⟩;simp[a.none,aW,-AI];refine fG (aI:=by simp[bA]) e.q (aq:=[.agg #[wa,wb,wc],.int .i64 (aM*cg (T.M i ad))]) (by simp[a.none]) rfl (λaz v=>Sg j v (w3.k e) (A.v _ R) (a8 ht (by decide))) ?_;rintro aX H3 v G;have x2:=v.res a;have D:=e.trans v;have ah:=O.trans D;have g3:=ah.q;have aA:=λv=>jT (w.up e) (e.some a Q) v;have aB:=λv=>jT (w.up e) (e.some a w1) v;have aC:=λv=>jT (w.up e) (e.some a r1) v;have ak:=w.up D;have an:=hf.up D;obtain⟨fp,rfl⟩:=an.ptr
   cases H:room P T.v (T.rows i) (aM*cg (T.M i ad)) with
   | none=>
     rw[H]at G;obtain rfl:aX=.pointer none:=G;simp[x2,b3,bZ,q0,q1,q2, cU,aA,aB,aC,-KH];have e:dW P T ad aM (i+1)=dW P T ad aM i:=by rw[dW,aw l,H]
     rw[e];exact⟨_,⟨rfl,rfl,rfl⟩,ah,an⟩
   | some r=>
     rw[H]at G;obtain⟨rb,rfl,_⟩:=id G;have aD:=aaL (A.v _ R) H;have aE:aV (dH (T.M i ad)) (2*t+1):=by
      have:=dY F (show t<=2*t+1 by omega);unfold dH;split
      ·exact r2 this
      ·exact this
     have a:dH (T.M i ad)≠0:=by have:=lg l;grind
     have aG:=dY (DV aD aE a) (show 2*(2*t+1)<=4*t+2 by omega);have x:dW P T ad aM (i+1)=(dW P T ad aM i).add (r/dH (T.M i ad)) i (T.rows i):=by rw[dW,aw l,H]
     have aH:∀(y:ae) (z:Value),K pm H3 y->b4 y z (dH (T.M i ad))->∀L:bn,aF 0 L=some (.pointer (some ⟨aj 0,0,none⟩))->aF 1 L=some (.int .i64 (ad:Int))->aF 2 L=some (.int .i64 aM)->aF 8 L=some (.pointer fp)->aF 9 L=some (.int .i64 (dO (dW P T ad aM i).ind))->aF 10 L=some (.int .i64 ((dW P T ad aM i).pt:Int))->aF 11 L=some (.int .i64 (i:Int))->aF 13 L=some z->
      aF 14 L=some (.pointer (some ⟨rb,0,none⟩))->aF 41 L=some (.slice (some ⟨aj 4,0,none⟩) P.m P.m)->aF 42 L=some (.int .i64 (P.m:Int))->aF 43 L=some (.int .i64 (i:Int))->∀S:cl,
      (∀e ab l,K pm ai ab->fv ab l (dW P T ad aM (i+1)).e4->Sub [(43,.int .i64 (i:Int)),(42,.int .i64 (P.m:Int)),(0,.pointer (some ⟨aj 0,0,none⟩)),(1,.int .i64 (ad:Int)),(2,.int .i64 aM),(8,l),(9,.int .i64 (dO (dW P T ad aM (i+1)).ind)),(10,.int .i64 ((dW P T ad aM (i+1)).pt:Int)),(41,.slice (some ⟨aj 4,0,none⟩) P.m P.m)] e->S .normal e ab)->wp X pm (.code vl) L y [] S:=by
      intro y z k4 e L f m n U l9 V o l ao p q s S ar;simp[ao,l,-KN,-KK];refine al.of (aq:=[.pointer (some ⟨rb,0,none⟩),z]) (AZ j.toEL k4.q (G.up k4).of e.of (aD.bo ax) (aE.bo ax) a) ?_;rintro _ W ⟨k5,_,rfl,Y⟩;obtain⟨xb,rfl,_⟩:=id Y;have a:=k4.trans k5;have Z:=ah.trans a;have t:=k5.q;have e:=aP.k c Z;have I:=e.t;rw[dA (b:=aj 2) C]at I;obtain⟨_,s1,_,c⟩:=e.r C;have au:=c i d;have y0:=t.lt I;have y2:=t.lt s1;have aw:K pm W (W.up 12):=(K.refl t).up 12;have u:=an.up a
      have aa:∀L:bn,aF 0 L=some (.pointer (some ⟨aj 0,0,none⟩))->aF 1 L=some (.int .i64 (ad:Int))->aF 2 L=some (.int .i64 aM)->aF 11 L=some (.int .i64 (i:Int))->aF 107 L=some (.bool true)->
       aF 14 L=some (.pointer (some ⟨xb,0,none⟩))->aF 41 L=some (.slice (some ⟨aj 4,0,none⟩) P.m P.m)->aF 42 L=some (.int .i64 (P.m:Int))->aF 43 L=some (.int .i64 (i:Int))->dW P T ad aM (i+1)=⟨some (r/dH (T.M i ad)),some i,T.rows i⟩->wp X pm (.code xU) L W [] S:=by
       intro L f m n o a ao p q s b;simp[a];refine cx.of t.ah rfl ?_;simp[b8,t.none,t.O,f,o,ao,I,s1,au,d,b3,bZ,y0,y2,];exact ar _ _ (.pointer (some ⟨xb,0,none⟩)) (Z.trans aw) (by rw[b];exact Y.up aw) (by simp[f,m,n,p,q,s,b,dO])
      have a:r/dH (T.M i ad)=r/dH (T.M i ad):=rfl;generalize r/dH (T.M i ad)=ae at Y aG x aa
      cases h:(dW P T ad aM i).e4 with
      | none=>
        rw[h]at u;cases u;simp[U,aR,-xU];exact aa _ (by simp[f]) (by simp[m]) (by simp[n]) (by simp[o]) (by simp) (by simp) (by simp[p]) (by simp[q]) (by simp[s]) (by rw[x,hy.add,h])
      | some b=>
        rw[h]at u;obtain⟨r,K,_⟩:=id u;cases K;have a:=Qh A ix k (I5 d) b h;simp[U,-KM,-KJ];refine al.of (aI:=by simp) (aq:=[.pointer (some ⟨xb,0,none⟩),.pointer (some ⟨r,0,none⟩)]) (k7 j.toEL t Y.of u.of (aG.bo av) (a.bo av)) ?_;rintro _ W ⟨rfl,rfl⟩;by_cases g:ae<b
        ·simp[kb,g,aR,-xU];exact aa _ (by simp[f]) (by simp[m]) (by simp[n]) (by simp[o]) (by simp) (by simp) (by simp[p]) (by simp[q]) (by simp[s]) (by rw[x,hy.add,h];simp[g])
        ·by_cases B:ae=b
         ·have c:(iF ae b==0)=true:=by simp[cmp_eq,B]
          by_cases a:T.rows i<(dW P T ad aM i).pt
          ·simp[kb,g,c, f,V,o,I,s1,au,d,a,-xU];exact aa _ (by simp[f]) (by simp[m]) (by simp[n]) (by simp[o]) (by simp) (by simp) (by simp[p]) (by simp[q]) (by simp[s]) (by rw[x,hy.add,h];simp[B,a])
          ·simp[kb,g,c, f,V,o,I,s1,au,d,a];have c:dW P T ad aM (i+1)=dW P T ad aM i:=by rw[x,hy.add,h];simp[g,a]
           exact ar _ _ (.pointer (some ⟨r,0,none⟩)) Z (by rw[c,h];exact u) (by simp[f,m,n,U,l9,V,p,q,s,c])
         ·have a:(iF ae b==0)=false:=by simp[cmp_eq,B]
          simp[kb,g,a,aR];have a:dW P T ad aM (i+1)=dW P T ad aM i:=by rw[x,hy.add,h];simp[g,B]
          exact ar _ _ (.pointer (some ⟨r,0,none⟩)) Z (by rw[a,h];exact u) (by simp[f,m,n,U,l9,V,p,q,s,a])
     simp[x2,b3,bZ,q0,q1,q2, cU,aA,aB,aC,-vl];refine al.of (aq:=[E]) (hA j.toEL g3 ak.of (F.bo J)) ?_;rintro _ H3 ⟨rfl,rfl⟩;by_cases a:T.M i ad<0
     ·simp[qy,a,-vl];refine al.of (aq:=[E]) (A7 j.toEL g3 ak.of (F.bo J)) ?_;rintro z y ⟨b,c⟩;simp[-vl];refine aH y z b (by rw[dH,aL a];exact c) _ (by simp) (by simp) (by simp) (by simp) (by simp) (by simp) (by simp) (by simp) (by simp) (by simp) (by simp) (by simp) _ λ_ ab b c d e=>?_;simp;exact⟨b,by simpa using e,c,d⟩
     ·simp[qy,a,-vl];refine aH H3 E (K.refl g3) (by rw[dH,aw a];exact ak) _ (by simp) (by simp) (by simp) (by simp) (by simp) (by simp) (by simp) (by simp) (by simp) (by simp) (by simp) (by simp) _ λ_ ab a b c d=>?_;simp;exact⟨a,by simpa using d,b,c⟩
 ·rintro f H1 ⟨N,a⟩;simp;refine hQ _ _ _ ?_;simp;exact⟨N,a⟩
end
structure ns(aa:ar)(P:bM)(c:Nat->Rat):Prop where
 n:P.n=aa.a.length
 m:P.m=aa.rows.length
 cost:∀j,j<P.n->c j=rd (aa.ad j).cost
theorem ns.ok{aa:ar}{P:bM}{c:Nat->Rat}(h:ns aa P c)(a:aa.ok):oj P:=⟨by rw[h.n];exact a.c,by rw[h.m];exact a.r⟩
section
variable{P:bM}{aW:Nat}{aj:Nat->Nat}{lc bJ:Value}{T:bu}{c:Nat->Rat}{aa:ar}
theorem WO{f:List Value}{k:Nat}{a b c d e:Value}(h:bB f k 5=some [a,b,c,d,e]):f[k+3]? = some d:=by
 unfold bB at h;by_cases a:k+5<=f.length
 ·rw[cJ,hd a,cond_true]at h;have h:=jH h;have:(List.take 5 (List.drop k f))[3]? = some d:=by rw[h];rfl
  rw[jY (by omega),jZ]at this;exact this
 ·rw[cJ,j1 a,cond_false]at h;cases h
theorem BO(b:aa.ok)(a:ns aa P c){x:Nat}:aV (gK P c x) 10000:=by
 unfold gK;split
 ·rename_i h;rw[a.cost x h];have c:x<aa.a.length:=by rw[<-a.n];exact h
  exact hf (k:=10000) (b.cs (aa.ad x) (cX (ar.kc c))).2.2
 ·exact qB
theorem Ob(b:fC X)(f:bl pm ai)(k:aa.ok)(l:aa.I=true)(d:ns aa P c)(aP:cT P aW ai aj lc bJ T)(j:hO ai lc aa.a){x:Nat}(_:x<100000):
 Call X pm F.qH [.pointer (some ⟨aj 0,0,none⟩),.int .i64 (x:Int)] ai λr ab=>K pm ai ab/\b4 ab r (gK P c x):=by
 refine Call.W b.qH rfl λ_ g=>?_;obtain⟨_,_,rfl,m⟩:=j.at;have h:=aP.t;by_cases a:x<P.n
 ·have i:x<aa.a.length:=by rw[<-d.n];exact a
  obtain⟨_,_,_,_,_,rfl,n,o,p,c,e,rfl⟩:=m x i;have j:=cX e;have m:=ar.q7 e;have q:=WO p;have e:=F' (uJ l j);have l:=(k.cs c j).2.2;have j:c.cost≠[]:=by rintro k;rw[k]at e;simp[isNum,za]at e
  simp[h,i,n,o,q];refine al.of (aq:=[ak c.cost]) (xY b f λ_=>e) ?_;rintro r _ ⟨e,c⟩;rw[fl,aw j]at c;simp;refine g _ _ _ ?_;simp;exact⟨e,by rw[gK,aL a,d.cost x a,m];exact c⟩
 ·have c:¬x<aa.a.length:=by rw[<-d.n];exact a
  simp[h,c];refine al.of (aq:=[.int .i64 0]) (ml b.toEL f (n:=0) (by omega) (by omega)) ?_;rintro r _ ⟨b,c⟩;simp;refine g _ _ _ ?_;simp;exact⟨b,by rw[gK,aw a];simpa using c⟩
def km(P:bM)(c:Nat->Rat)(T:bu)(i k:Nat):Rat:=gK P c (T.a k)+aS (λi=>gK P c (T.rows i)*T.M i k) i
theorem Dt(a:aa.ok)(b:ns aa P c){t:Nat}(d:js P T t){k:Nat}(av:k<P.n):∀{i:Nat},i<=P.m->aV (km P c T i k) (10001+i*(10001+t))
 | 0,_=>by
   rw[km,aS,lB];exact dY (BO a b) (by omega)
 | i+1,_=>by
   have ih:=Dt a b d av (i:=i) (by omega);have:km P c T (i+1) k=km P c T i k+gK P c (T.rows i)*T.M i k:=by
    rw[km,km,aS];grind
   rw[this];refine dY (vi ih (jk (BO a b) (d.M i k (by omega) av))) ?_;rw[j0];omega
theorem aaF(l:fC X)(I:bl pm ai)(J:K pm ai H)(N:oj P){a c4:Nat}(x:ai.next<=a)(O:c4≠a){d M:Nat->Rat}{q:Rat}{t h0:Nat}(z:aV q 10000)(R:t<=100000)(S:∀k,k<P.n->aV (M k) t)(T:h0<=10000000)(U:∀k,k<P.n->aV (d k) h0)
 (V:dD H c4 P.n P.n M) (n:0<P.n->dD H a P.n P.n d) {w:Value} (A:b4 H w q) {L:bn} {i:Nat} {qC D7:Value} (W:aF 0 L=some qC) (Y:aF 3 L=some (aZ a P.n)) (Z:aF 7 L=some (.slice (some ⟨c4,0,none⟩) P.n P.n)) (l8:aF 8 L=some w)
 (aa:aF 30 L=some D7) (ad:aF 31 L=some (.int .i64 (P.m:Int))) (af:aF 32 L=some (.int .i64 (i:Int))) {Q:cl}
 (ag:∀aU ab,K pm ai ab->fg a H ab->(0<P.n->dD ab a P.n P.n λk=>d k+q*M k)->Sub [(32,.int .i64 (i:Int)),(31,.int .i64 (P.m:Int)),(0,qC),(3,aZ a P.n),(30,D7)] aU->Q .normal aU ab):
 wp X pm (.code AN) L H [] Q:=by
 have ak:=N.n;have B:t<=gZ:=a8 R (by decide);have ah:h0<=gZ:=a8 T (by decide);obtain⟨o,rfl,_⟩:=id A;simp[Z,-Lt]
 refine er (σ:=Unit) P.n (λ_ _=>[(32,.int .i64 (i:Int)),(31,.int .i64 (P.m:Int)),(0,qC),(3,aZ a P.n),(30,D7),(49,.slice (some ⟨c4,0,none⟩) P.n P.n),(8,.pointer (some ⟨o,0,none⟩))])
  (λk _ ab=>K pm ai ab/\fg a H ab/\(0<P.n->dD ab a P.n P.n λy=>if y<k then d y+q*M y else d y)) () (by simp[W,Y,l8,aa,ad,af]) ⟨J,fg.refl,λh=>(n h).congr λy _=>by simp⟩ ?_ ?_
 ·rintro k _ e c ⟨p,f,h⟩;have b:=p.q;have h:=h (by omega);obtain⟨_,H,_,J⟩:=V;obtain⟨r,L,N⟩:=J k c;have Q:=f c4 _ O H;have s:=S k c;obtain⟨X,i,d2,C⟩:=id h;obtain⟨qk,aj,D⟩:=C k c;have H:(λy=>if y<k then d y+q*M y else d y) k=d k:=by simp
  rw[H]at D;have u:b4 e r (M k):=f.dr (n (by omega)).choose_spec.1 N;have E:b4 e (.pointer (some ⟨o,0,none⟩)) q:=f.dr (n (by omega)).choose_spec.1 A;have nx:∀(ab:ae) (n:Value),dD ab a P.n P.n (λy=>if y=k then d k+q*M k else if y<k then d y+q*M y else d y)->dD ab a P.n P.n λy=>if y<k+1 then d y+q*M y else d y:=λab n n=>n.congr λy _=>by
   by_cases d:y=k
   ·subst d;simp
   ·by_cases g:y<k
    ·simp[d,g,show y<k+1 by omega]
    ·simp[d,g,show ¬y<k+1 by omega]
  simp[Q,L,c,-LA,-Lw];refine al.of (aq:=[r]) (hA l.toEL b u.of (s.bo B)) ?_;rintro _ e ⟨rfl,rfl⟩;by_cases v:M k=0
  ·simp[jh,v];refine⟨p,f,λ_=>h.congr λy _=>?_⟩;by_cases d:y=k
   ·subst d;simp[v,lB]
   ·by_cases d:y<k
    ·simp[d,show y<k+1 by omega]
    ·simp[d,show ¬y<k+1 by omega]
  ·have M:=b.lt i;rw[dA (show 0<P.n by omega)];simp[jh,v];refine cx.of b.ah rfl ?_;have d:K pm e (e.up 12):=(K.refl b).up 12;simp[b8,b.none,b.O,i,aj,c];have dj:=λm=>kI (E.up d) (u.up d) (d.some b i) m;refine cY d.q (aq:=[.pointer (some ⟨o,0,none⟩),r]) (by simp[b.none]) rfl (λab q=>og l.toEL q (E.up d).of (u.up d).of (z.bo (by decide)) (s.bo B)) ?_;rintro e _ g f6;have h:=g.res b;simp;refine fG g.q (aq:=[qk,e]) (by simp[h]) rfl (λab q=>n8 l.toEL q ((D.up d).up g).of f6.of ((U k c).bo ah) ((jk z s).bo (a8 (show 10000+t<=110000 by omega) (by decide)))) ?_;rintro _ _ w F;have x2:=(K.trans g w).res b;have j:=d.trans (g.trans w);have G:=j.some b i;obtain⟨_,rfl,_⟩:=id F;have d:∀o,Perm.may ⟨pm.ah,pm.ok,o⟩ a=true:=λo=>ej (a8 I.ah x);simp[x2,G,c,d,show k<X.length by omega,b3,bZ,M, cU,dj];obtain⟨e,g⟩:=dD.put (m:=ai.next) w.q x G d2 (λy a=>(C y a).imp λ_ d=>⟨d.1,d.2.up j⟩) c F (dy:=P.n) (λy a=>.inr a);exact⟨aC.trans (p.trans j) e,f.trans (fg.trans (j.uq b) fg.put),λ_=>nx _ (.pointer none) g⟩
 ·rintro _ _ ⟨a,b,c⟩;simp;exact ag _ _ a b (λh=>(c h).congr λ_ a=>by simp[a]) (by simp)
end
theorem kx.Wi{v:Value}{i n:Nat}{x:Nat->Rat}(h:kx pm n H v i x)(aP:i=0->v=.slice none 0 0):∃a,v=aZ a i/\(0<i->n<=a/\dD H a i i x):=by
 obtain⟨c,o,b,e,f⟩:=h;by_cases h:i=0
 ·subst h;exact⟨0,aP rfl,λh=>by omega⟩
 ·cases o with
  | none=>
    obtain⟨rfl,_,rfl⟩:=b;grind
  | some d=>
    obtain⟨rfl,g,h⟩:=b;exact⟨d,(dA (by omega)).symm,λ_=>⟨(e d rfl).1,c,h,by simpa using g,f⟩⟩
section
variable{P:bM}{aW:Nat}{aj:Nat->Nat}{lc bJ:Value}{T:bu}{c:Nat->Rat}{aa:ar}
theorem cT.lt(h:cT P aW H aj lc bJ T)(g:bl pm H){i:Nat}(a:i<P.m):aj (5+i)<H.next:=by
 obtain⟨_,b,_⟩:=h.row i a;exact g.lt b
theorem Sb(j:fC X)(a:bl pm ai)(g:aa.ok)(v:aa.I=true)(h:ns aa P c)(aP:cT P aW ai aj lc bJ T)(w:hO ai lc aa.a)(x:dT P T){t:Nat}(G:t<=100000)(y:js P T t):
 Call X pm F.qO [.pointer (some ⟨aj 0,0,none⟩)] ai λr ab=>K pm ai ab/\jM ab r P.n (red P c T):=by
 refine Call.W j.qO rfl λ_ H=>?_;have p:=h.ok g;have z:=p.n;have z:=p.m;have z:=aP.t;obtain⟨I,J,L⟩:=qA (aj 3) P.n;rw[J]at z;simp[z,-Ls,-Lv]
 refine er (σ:=Value) P.n (λ_ u=>[(0,.pointer (some ⟨aj 0,0,none⟩)),(3,u),(14,.slice I P.n P.n)])
  (λk u ab=>K pm ai ab/\kx pm ai.next ab u k (km P c T 0)/\(k=0->u=.slice none 0 0)) (.slice none 0 0) (by simp) ⟨K.refl a,kx.nil,λ_=>rfl⟩ ?_ ?_
 ·rintro k u _ e ⟨d,n,_⟩;obtain rfl:=L (by omega);have f:=d.q;have i:=aP.k a d;obtain⟨_,o,_,q⟩:=i.c (by omega);have s:=q k e;have q:=x.c k e;simp[o,s,e,-Lz];refine al.of (aq:=[.pointer (some ⟨aj 0,0,none⟩),.int .i64 (T.a k:Int)]) (Ob j f g v h i (w.ext (d.ext a)) (by omega)) ?_;rintro r _ ⟨b,l⟩;obtain⟨_,t,m,A⟩:=(n.k f b).app (cR:=8) b.q l (by omega) (by omega) (d.trans b).next;have B:(λe=>if e=k then gK P c (T.a k) else km P c T 0 e)=km P c T 0:=by
   funext e;by_cases c:e=k
   ·subst c;simp[km,aS,lB]
   ·simp[c]
  rw[B]at m;obtain⟨_,rfl,_⟩:=id l;simp[b.q.pick,b.q.make,fill,setCells,t];exact⟨aC.trans (d.trans b) A,m⟩
 ·rintro u N ⟨s,O,Q⟩;have u:=s.q;obtain⟨A,rfl,u⟩:=O.Wi Q;obtain⟨R,z,S⟩:=qA (aj 4) P.m;have B:=s.some a aP.t;rw[z]at B;obtain⟨f,U,V,W⟩:∃f,aZ A P.n=aZ f P.n/\ai.next<=f/\(0<P.n->dD N f P.n P.n (km P c T 0)):=by
   by_cases b:P.n=0
   ·exact⟨ai.next,by simp[aZ,b],bc _,λ_=>by omega⟩
   ·obtain⟨c,d⟩:=u (by omega);exact⟨A,rfl,c,λ_=>d⟩
  rw[U];simp[B,-Lr]
  refine er (σ:=Unit) P.m (λ_ _=>[(0,.pointer (some ⟨aj 0,0,none⟩)),(3,aZ f P.n),(30,.slice R P.m P.m)])
   (λi _ ab=>K pm ai ab/\(0<P.n->dD ab f P.n P.n (km P c T i))) () (by simp) ⟨s,W⟩ ?_ ?_
  ·rintro i _ _ e ⟨n,C⟩;obtain rfl:=S (by omega);have o:=n.q;have l:=aP.k a n;obtain⟨_,u,_,s⟩:=l.m (by omega);have z:=s i e;obtain⟨_,A,_,s⟩:=l.r (by omega);have B:=s i e;have s:=l.t;rw[dA (b:=aj 2) (show 0<P.m by omega)]at s;have I:=x.r i e;simp[u,z,e,s,A,B,-Ly,-Lu];refine al.of (aq:=[.pointer (some ⟨aj 0,0,none⟩),.int .i64 (T.rows i:Int)]) (Ob j o g v h l (w.ext (n.ext a)) (by omega)) ?_;rintro r s ⟨m,D⟩;have E:=n.trans m;have F:∀k,km P c T (i+1) k=km P c T i k+gK P c (T.rows i)*T.M i k:=λk=>by rw[km,km,aS];grind
   simp[-Lx,-AN];refine al.of (aq:=[r]) (hA j.toEL m.q D.of ((BO g h).bo (by decide))) ?_;rintro _ s ⟨rfl,rfl⟩;by_cases b:gK P c (T.rows i)=0
   ·simp[jh,b];exact⟨E,λc=>((C c).k o m).congr λk _=>by rw[F,b];grind⟩
   ·have n:aj (5+i)≠f:=by
     have:=aP.lt a e;omega
    simp[jh,b,-AN];refine aaF j a E p V n (q:=gK P c (T.rows i)) (M:=T.M i) (d:=km P c T i) (t:=t) (h0:=10000000) (BO g h) G (λk a=>y.M i k e a) (by omega) (λk a=>dY (Dt g h y a (I5 e)) ?_) ((l.row i e).k o m) (λh=>(C h).k o m) D (qC:=.pointer (some ⟨aj 0,0,none⟩)) (D7:=.slice (some ⟨aj 4,0,none⟩) P.m P.m) (i:=i) (by simp) (by simp) (by simp) (by simp) (by simp) (by simp) (by simp) λ_ ab a _ b e=>?_
    ·have:i*(10001+t)<=40*110001:=gk (by omega) (by omega);omega
    ·simp;exact⟨by simpa using e,a,λh=>(b h).congr λk _=>F k⟩
  ·rintro _ _ ⟨a,b⟩;simp;refine H _ _ _ ?_;simp;refine⟨a,?_⟩;by_cases h:P.n=0
   ·rw[h];exact⟨none,0,rfl,λi a=>absurd a (gS _)⟩
   ·rw[dA (by omega)];exact(b (by omega)).row
end
abbrev tyF:Nat:=T.acr
theorem gd{b c:Nat}(h:b≠c):c6 [b] [c]=true:=by simp[c6,h]
theorem aC.fill(u:aC pm n H ab){c:Nat}(h:n<=c)(a':ab.get c=none)(d:c<ab.next)(x:bz):aC pm n H (ab.put c x) where
 q:=⟨⟨u.q.num,u.q.ah,λb a=>by
  have a:ab.next<=b:=a;rw[ae.eP,aw (by omega)];exact u.q.wf b a,λb a=>trivial⟩,by
  show(ab.put c x).get 1=_;rw[ae.eP,aw]
  ·exact u.q.ep
  ·rintro rfl;rw[u.q.ep]at a';cases a'⟩
 next:=u.next
 get:=λb a=>by rw[ae.eP,aw (by omega)];exact u.get b a
 cf:=λb o e=>by
  have e:=u.cf b o e;rw[ae.eP,aw]
  ·exact e
  ·rintro rfl;rw[e]at a';cases a'
section
variable{P:bM}{aW:Nat}{aj:Nat->Nat}{lc bJ:Value}{T:bu}{c:Nat->Rat}{aa:ar}
theorem js.mono{t b:Nat}(h:js P T t)(a:t<=b):js P T b:=⟨λx b=>⟨λl e=>dY ((h.v x b).ah l e) a,λl e=>dY ((h.v x b).up l e) a,dY (h.v x b).v a⟩,λi k b c=>dY (h.M i k b c) a⟩
theorem Wy(i:fC X)(g0:bl pm ai)(ak:pm.ah<=aW)(Y:aW<=ai.next)(n:oj P)(G:bu->Prop){t:Nat}(Z:1<=t)(ht:t<=20000)(hG:∀T,G T->Inv P T/\js P T t/\Ends (jx P) T)(aH:∀T g,G T->jx P T=some g->G g)(aP:cT P aW ai aj lc bJ T)(p:G T):
 Call X pm F.sa [.pointer (some ⟨aj 0,0,none⟩)] ai λr ab=>∃g,aC pm aW ai ab/\cT P aW ab aj lc bJ g/\G g/\(lH P g=none/\r=.tuple #[.int .i64 0,.bool true]∨∃a,lH P g=some a/\lU P g a (off P g.v (g.rows a))=none/\r=.tuple #[.int .i64 a,.bool false]):=by
 refine Call.W i.sa rfl λaJ hQ=>?_;have g:=n.n;have g:=n.m;simp[-Kz];refine fh.of (σ:=bu) (λ_=>[(0,.pointer (some ⟨aj 0,0,none⟩))]) (λT H=>aC pm aW ai H/\cT P aW H aj lc bJ T/\G T) (left (jx P)) T (by simp) ⟨aC.refl g0,aP,p⟩ ?_;rintro T _ ⟨u1,t1,p⟩;obtain⟨g,q,aK⟩:=hG T p;have I:=g.B;have g1:=u1.q;simp[-KD,-KB];refine al.of (aq:=[.pointer (some ⟨aj 0,0,none⟩)]) (ack i g1 n t1 I (t:=t) (by omega) q) ?_;rintro _ c ⟨s,rfl⟩;have aa:=a8 Y u1.next;have u2:=u1.k s aa
 cases J:lH P T with
 | none=>
   simp[dO];refine hQ _ _ _ ?_;simp;exact⟨u2,T,t1.k g1 s,p,J⟩
 | some a=>
   obtain⟨aI,M,_⟩:=j' J;have M:off P T.v (T.rows a)≠0:=by simpa using M
   have f:=s.q;have L:=t1.k g1 s;have ad:=I.r a aI;have g:0<P.n+P.m:=by omega
   have N:0<P.m:=by omega
   have ae:=L.t;rw[dA (b:=aj 1) g,dA (b:=aj 2) N]at ae;obtain⟨_,r1,_,r3⟩:=L.r N;have aM:=r3 a aI;obtain⟨aq,_,_,_,v1,v2,v⟩:=(L.v g).load ad;have aN:=f.lt ae;have aO:=f.lt v1;have aP:=f.lt r1;simp[dO,-Ef];refine cx.of f.ah rfl ?_;obtain⟨O,rfl⟩:=v.ah.ptr;obtain⟨Q,rfl⟩:=v.up.ptr;obtain⟨R,rfl,_⟩:=id v.v;obtain⟨r,S⟩:∃r,r=((c.up 15).put (c.next+13) (.cells [.pointer none,.pointer none,.pointer none] (.t tyF))).put (c.next+13) (.cells [.pointer O,.pointer Q,.pointer (some ⟨R,0,none⟩)] (.t tyF)):=⟨_,rfl⟩;have an:((c.up 15).put (c.next+13) (.cells [.pointer none,.pointer none,.pointer none] (.t tyF))).get (c.next+14)=none:=by rw[a6 (by omega)];exact f.none 14
   have g:K pm c (c.up 15):=(K.refl f).up 15;have u:K pm c r:=by
    rw[S];exact aC.put (aC.fill g (gj _ _) (f.none 13) (by show c.next+13<c.next+15;omega) _) (gj _ _) bO (by simp) _
   have af:r.get (c.next+13)=some (.cells [.pointer O,.pointer Q,.pointer (some ⟨R,0,none⟩)] (.t tyF)):=by rw[S];exact bO
   have g:=λo=>ej (ok:=pm.ok) (o:=o) (ah:=pm.ah) (b:=c.next+13) (a8 f.ah (gj _ _));have ao:=f.none 13;have ar:=gd (show c.next+13≠aj 0 by omega);have au:=gd (show c.next+13≠aj 1 by omega);have ax:=gd (show c.next+13≠aj 2 by omega);simp[b8,f.none,f.O,ae,r1,aM,aI,v1,v2,ad,Perm.make,Perm.pick,ptr,bA,<-S, an,g,b3,bZ,aN,aO,aP, cU,ar,au,ax,-Ef];clear S an ar au ax ao;have h:=u.q;have u3:=u2.k u (a8 aa s.next);have y:=q.v _ ad;have ay:=h.lt af;have ag:K pm r (r.up 6):=(K.refl h).up 6;simp[-Ee];refine cx.of h.ah rfl ?_;simp[b8,h.none,h.O,af,bB,-Ee];have ao:=ay;generalize c.next+13=b at*
   refine cY (aI:=by simp[bA]) ag.q (aq:=[.agg #[.pointer O,.pointer Q,.pointer (some ⟨R,0,none⟩)]]) (by simp[h.none]) rfl (λaz z=>HS i z ((v.k u).k ag) y (by omega)) ?_;rintro _ H4 k4 rfl;have g:=k4.res h;have c:=ag.trans k4;have aA:=c.some h af;have u4:=u3.k c (a8 (a8 aa s.next) u.next);have t4:=(L.k f u).k h c;have v4:=(v.k u).k c;have g4:=u4.q;have aB:=a8 Y u4.next;simp[g,b3,bZ,ay,fT,cU,dj,-AH];obtain⟨w,j⟩:∃w,w=off P T.v (T.rows a):=⟨_,rfl⟩;have k:=uP M;rw[<-j]at k|-
   have aD:∀(U:Value) (L:bn),b4 H4 U (goal P (T.rows a) w)->aF 0 L=some (.pointer (some ⟨aj 0,0,none⟩))->aF 4 L=some (.int .i64 (a:Int))->aF 5 L=some (.pointer (some ⟨b,0,none⟩))->aF 6 L=some (.int .i64 w)->aF 7 L=some U->
    wp X pm (.code AH) L H4 [] λx l H=>(x=.ret/\lU P T a w=none/\aF 2 l=some (.int .i64 (a:Int))/\aF 3 l=some (.bool false)/\aC pm aW ai H/\cT P aW H aj lc bJ T)∨(x=.normal/\∃d,lU P T a w=some d/\aF 0 l=some (.pointer (some ⟨aj 0,0,none⟩))/\aC pm aW ai H/\cT P aW H aj lc bJ (jy P T a d)):=by
    intro U L aQ A V l5 c l7;simp[A,V,c,-KE,-KC];refine al.of (aI:=by simp[]) (aq:=[.pointer (some ⟨aj 0,0,none⟩),.int .i64 (a:Int),.int .i64 w]) (WY i g4 n t4 I (t:=t) (by omega) q aI k) ?_;rintro _ H5 ⟨o,rfl⟩;have e:=o.q;have B:=t4.k g4 o;have u5:=u4.k o aB
    cases hh:lU P T a w with
    | none=>
      simp[dO,V];exact⟨u5,B⟩
    | some d=>
      obtain⟨C,c,_⟩:=j' hh;simp only[bK,cP]at c;have X:=c.1;have ab:=o.some g4 aA;have H:=B.t;rw[dA (b:=aj 4) N]at H;obtain⟨_,m1,_,c⟩:=B.m N;have aR:=c a aI;obtain⟨_,p1,_,c⟩:=B.row a aI;obtain⟨pc,aS,aT⟩:=c d C;have q0:=e.lt H;have q1:=e.lt m1;have q2:=e.lt p1;have q3:=e.lt ab;have m:K pm H5 (H5.up 20):=(K.refl e).up 20;simp[dO,-AG];refine cx.of e.ah rfl ?_;simp[b8,e.none,e.O,A,V,l5,l7,ab,H,m1,aR,aI,p1,aS,C,-AG];have c:=K.trans o m;have D:=aQ.up c;have E:=v4.v.up c;have f:=m.some e H;have F:=m.some e m1;have g:=m.some e p1;have h:=m.some e ab;have j0:=λc=>kI D E f c;have j1:=λc=>kI D E F c;have j2:=λc=>kI D E g c;have f:=λc=>kI D E h c;have ai:=q.M a d aI C;have aC:aV (goal P (T.rows a) w) t:=by
       unfold goal
       rcases k with k | k
       ·rw[k,aw (by decide)]
        cases b:P.ah (T.rows a) with
        | none=>exact qB (av:=Z)
        | some l=>exact y.ah l b
       ·rw[k,aL (by decide)]
        cases b:P.up (T.rows a) with
        | none=>exact qB (av:=Z)
        | some l=>exact y.up l b
      have ah:t<=gZ:=a8 ht (by decide);have aU:2*t+1<=gZ:=a8 (show 2*t+1<=50000 by omega) (by decide);have aE:=xN aC y.v;have aW:aV (uu P T a d) (4*t+2):=by
       unfold uu;rw[<-j];exact dY (DV aE (dY ai (by omega)) X) (by omega)
      refine cY m.q (aq:=[U,.pointer (some ⟨R,0,none⟩)]) (by simp[e.none]) rfl (λaz z=>Be i.toEL z D.of E.of (aC.bo ah) (y.v.bo ah)) ?_;rintro c _ W f6;have f:=W.res e;have aF:=m.trans W;have aX:=aT.up aF;simp[-AG];refine fG W.q (aq:=[c,pc]) (by simp[f]) rfl (λaz z=>AZ i.toEL z f6.of aX.of (aE.bo aU) (ai.bo ah) X) ?_;rintro _ _ k7 ⟨p7,rfl,c⟩;have k:=(K.trans W k7).res e;have f:=aF.trans k7;have m:=k7.q;have g:=u5.k f (a8 aB o.next);have h:=a8 Y g.next;have o:=B.k e f;have e:(goal P (T.rows a) w-T.v (T.rows a))/T.M a d=uu P T a d:=by rw[uu,j]
      rw[e]at c;simp[k,b3,bZ,q0,q1,q2,q3, cU,j0,j1,j2, A,-KA];refine al.of (aI:=by simp) (aq:=[.pointer (some ⟨aj 0,0,none⟩),.int .i64 (d:Int),p7]) (QI i m ak h n o I (t:=4*t+2) (by omega) (q.mono (by omega)) C c aW) ?_;rintro _ _ ⟨c,e⟩;have f:=a8 h c.next;simp[A,V];refine al.of (aI:=by simp[]) (aq:=[.pointer (some ⟨aj 0,0,none⟩),.int .i64 (a:Int),.int .i64 (d:Int)]) (RR i c.q ak f n e (t:=t) Z (by omega) (λi k e av=>q.M i k e av) aI C X) ?_;rintro _ _ ⟨e,f⟩;simp[A];exact⟨(g.trans c).trans e,f⟩
   have aG:∀x l H,((x=.ret/\lU P T a w=none/\aF 2 l=some (.int .i64 (a:Int))/\aF 3 l=some (.bool false)/\aC pm aW ai H/\cT P aW H aj lc bJ T)∨(x=.normal/\∃d,lU P T a w=some d/\aF 0 l=some (.pointer (some ⟨aj 0,0,none⟩))/\aC pm aW ai H/\cT P aW H aj lc bJ (jy P T a d)))->wp X pm (.res x) l H [.bj 1] λx l' ab=>match x with
    | .normal=>kt (λ(_:bu)=>[(0,.pointer (some ⟨aj 0,0,none⟩))]) (λT H=>aC pm aW ai H/\cT P aW H aj lc bJ T/\G T) (left (jx P)) T l' ab
    | x=>wp X pm (.res x) l' ab [.bj 0] aJ:=by
    rintro x l H (⟨rfl,b,m,o,e,t⟩ | ⟨rfl,d,b,A,e,t⟩)
    ·simp;refine hQ _ _ _ ?_;simp[m,o];exact⟨e,T,t,p,a,J,by rw[<-j];exact b,rfl⟩
    ·simp;have c:jx P T=some (jy P T a d):=by rw[jx,J];simp only;rw[<-j,b]
     exact kt.of (jy P T a d) (Qe aK c) (by simpa using A) ⟨e,t,aH _ _ p c⟩
   simp[aA,-AH]
   rcases tc M with⟨F,l,aY,_⟩ | ⟨F,l,aY,_⟩
   ·have a:w=1:=j.trans F;refine⟨λ_=>by omega,λ_=>wp_cut _ (aD (.pointer O) _ ?_ (by simp) (by simp) (by simp) (by simp) (by simp)) aG⟩;have:=v4.ah;rw[aY]at this;rw[goal,aw (by omega),aY];exact this
   ·have a:w=-1:=j.trans F;refine⟨λ_=>wp_cut _ (aD (.pointer Q) _ ?_ (by simp) (by simp) (by simp) (by simp) (by simp)) aG,λ_=>by omega⟩;have:=v4.up;rw[aY]at this;rw[goal,aL (by omega),aY];exact this
end
section
variable{P:bM}{aW:Nat}{aj:Nat->Nat}{lc bJ:Value}{T:bu}{c:Nat->Rat}{aa:ar}
theorem Wb(b:fC X)(w:bl pm ai)(M:pm.ah<=aW)(g:aW<=ai.next)(s:aa.ok)(hm:aa.I=true)(v:ns aa P c)(_:hO ai lc aa.a)(ak:∀ab,aC pm aW ai ab->hO ab lc aa.a)(G:bu->Prop){t:Nat}(an:1<=t)(a:t<=20000)(Q:∀T,G T->Inv P T/\js P T t/\Ends (h' P c) T)(ao:∀T a,G T->h' P c T=some a->G a)(aP:cT P aW ai aj lc bJ T)(h:G T):
 Call X pm F.r9 [.pointer (some ⟨aj 0,0,none⟩)] ai λr ab=>∃a,aC pm aW ai ab/\cT P aW ab aj lc bJ a/\G a/\(enters P c a=none/\r=.tuple #[.int .i64 (-1),.int .i64 0]∨∃ad,enters P c a=some ad/\(dW P a ad (eF P c a ad) P.m).e4=none/\r=.tuple #[.int .i64 ad,.int .i64 (eF P c a ad)]):=by
 refine Call.W b.r9 rfl λar N=>?_;have i:=v.ok s;have a:=i.n;have au:=i.m;simp[-Km];refine fh.of (σ:=bu) (λ_=>[(0,.pointer (some ⟨aj 0,0,none⟩))]) (λT H=>aC pm aW ai H/\cT P aW H aj lc bJ T/\G T) (left (h' P c)) T (by simp) ⟨aC.refl w,aP,h⟩ ?_;rintro T _ ⟨a,O,h⟩;obtain⟨w,d,av⟩:=Q T h;have j:=w.B;have Q:=a.q;have ax:=a8 g a.next;simp[-Kq,-Ed];refine al.of (aq:=[.pointer (some ⟨aj 0,0,none⟩)]) (Sb b Q s hm v O (ak _ a) j (t:=t) (by omega) d) ?_;rintro ak _ ⟨w,hd⟩;have R:=w.q;have S:=a.k w ax;have ay:=a8 g S.next;have U:=O.k Q w;have a:∀k,k<P.n->aV (red P c T k) 10000000:=λk y=>dY (Dt s v d y (bc P.m)) (by
  have:P.m*(10001+t)<=40*30001:=gk au (by omega);omega)
 simp[-Kp,-Ed];refine al.of (aq:=[.pointer (some ⟨aj 0,0,none⟩),ak]) (Wl b R i U j (t:=t) (by omega) d hd (h0:=10000000) (by omega) a) ?_;rintro _ _ ⟨z,rfl⟩;have V:=z.q;have A:=S.k z ay;have az:=a8 g A.next;have B:=U.k R z
 cases o:enters P c T with
 | none=>
   simp[dO,Ay];refine N _ _ _ ?_;simp;exact⟨A,T,B,h,o⟩
 | some ad=>
   obtain⟨p,W,_⟩:=j' o;simp only[bK,cP]at W;have Y:eF P c T ad=1∨eF P c T ad=-1:=by
    unfold eF
    rcases jg W.1 with⟨_,e⟩ | ⟨_,e⟩<;>rw[e]<;>simp
   obtain⟨aM,m⟩:∃aM,aM=eF P c T ad:=⟨_,rfl⟩;rw[<-m]at Y;simp[dO,Ay,<-m,-Kr,-Ko];refine al.of (aq:=[.pointer (some ⟨aj 0,0,none⟩),.int .i64 (ad:Int),.int .i64 aM]) (Yw b V i B j (t:=t) (by omega) d p Y) ?_;rintro _ Z ⟨C,aA,rfl,f⟩;have D:=C.q;have E:=A.k C az;have aB:=a8 g E.next;have t4:=B.k V C;have aa:=Ct P T ad aM P.m;have af:=Qh d j p (aM:=aM) (bc P.m);obtain⟨L,F⟩:∃L,L=dW P T ad aM P.m:=⟨_,rfl⟩;rw[<-F]at aa af f|-
   cases n:L.e4 with
   | none=>
     rw[n]at f;obtain rfl:aA=.pointer none:=f;simp;refine N _ _ _ ?_;simp;exact⟨E,T,t4,h,ad,o,by rw[<-m,<-F];exact n,rfl,m⟩
   | some q=>
     rw[n]at f;obtain⟨fb,rfl,_⟩:=id f;have I:=af q n;have a:h' P c T=some (jw P T ad aM q L.ind):=by rw[h',o];simp only;rw[<-m,<-F,n]
     have aD:=Qe av a;have aE:=ao _ _ h a
     have ag:∀(e:ae) (u:Value) (l:bn),K pm Z e->b4 e u (if aM<0 then -q else q)->aF 0 l=some (.pointer (some ⟨aj 0,0,none⟩))->aF 4 l=some (.int .i64 (ad:Int))->aF 6 l=some u->aF 7 l=some (.int .i64 (dO L.ind))->
      wp X pm (.code AF) l e [] λx l H=>x=.normal/\aF 0 l=some (.pointer (some ⟨aj 0,0,none⟩))/\aC pm aW ai H/\cT P aW H aj lc bJ (jw P T ad aM q L.ind):=by
      intro e u l J hu r l4 l6 l7;have ab:aV (if aM<0 then -q else q) (4*t+2):=by
       split
       ·exact r2 I
       ·exact I
      have a:=E.k J aB;have h:=a8 g a.next;simp[r,l4,l6,-Kn];refine al.of (aI:=by simp[]) (aq:=[.pointer (some ⟨aj 0,0,none⟩),.int .i64 (ad:Int),u]) (QI b J.q M h i (t4.k D J) j (t:=4*t+2) (by omega) (d.mono (by omega)) p hu ab) ?_;rintro _ _ ⟨u6,t6⟩;have K:=a.trans u6;have ae:=a8 g K.next
      cases c:L.ind with
      | none=>
        simp[l7,c,dO,r];exact⟨K,t6⟩
      | some a=>
        obtain⟨aI,g,_⟩:=aa.row a c;simp[l7,c,dO,r,l4];refine al.of (aI:=by simp[  ]) (aq:=[.pointer (some ⟨aj 0,0,none⟩),.int .i64 (a:Int),.int .i64 (ad:Int)]) (RR b u6.q M ae i t6 (t:=t) an (by omega) (λi k c y=>d.M i k c y) aI p g) ?_;rintro _ _ ⟨a,d⟩;simp[r];exact⟨K.trans a,d⟩
     have ah:∀x l H,(x=.normal/\aF 0 l=some (.pointer (some ⟨aj 0,0,none⟩))/\aC pm aW ai H/\cT P aW H aj lc bJ (jw P T ad aM q L.ind))->wp X pm (.res x) l H [.bj 1] λx l' ab=>match x with
      | .normal=>kt (λ(_:bu)=>[(0,.pointer (some ⟨aj 0,0,none⟩))]) (λT H=>aC pm aW ai H/\cT P aW H aj lc bJ T/\G T) (left (h' P c)) T l' ab
      | x=>wp X pm (.res x) l' ab [.bj 0] ar:=by
      rintro x l H ⟨rfl,a,u,t⟩;simp;exact kt.of _ aD (by simpa using a) ⟨u,t,aE⟩
     simp[-AF];refine⟨λa=>?_,λ_=>?_⟩
     ·refine al.of (aq:=[.pointer (some ⟨fb,0,none⟩)]) (A7 b.toEL D f.of (I.bo (a8 (show 4*t+2<=90000 by omega) (by decide)))) ?_;rintro u e ⟨b,c⟩;simp[-AF];exact wp_cut _ (ag e u _ b (by rw[aL a];exact c) (by simp) (by simp) (by simp) (by simp)) ah
     ·exact wp_cut _ (ag Z _ _ (K.refl D) (by rw[aw (by omega)];exact f) (by simp) (by simp) (by simp) (by simp)) ah
end
def eK(H:ae)(c n:Nat)(f:Nat->List UInt8):Prop:=∃a,H.get c=some (.cells a (.n 1))/\a.length=n/\∀i,i<n->a[i]? = some (ak (f i))
theorem eK.k{c n:Nat}{f:Nat->List UInt8}(h:eK H c n f)(g:bl pm H)(k:K pm H ab):eK ab c n f:=let ⟨a,b,d⟩:=h;⟨a,k.some g b,d⟩
theorem eK.congr{c n:Nat}{f ic:Nat->List UInt8}(h:eK H c n f)(e:∀i,i<n->ic i=f i):eK H c n ic:=let ⟨a,b,d,g⟩:=h;⟨a,b,d,λi a=>by rw[e i a];exact g i a⟩
theorem eK.put{m c n:Nat}{f:Nat->List UInt8}{ch:List Value}(g:bl pm H)(a:m<=c)(b7:H.get c=some (.cells ch (.n 1)))(cH:ch.length=n)(b:∀i,i<n->ch[i]? = some (ak (f i))){i:Nat}(h:i<n)(s:List UInt8):
 aC pm m H (H.put c (.cells (ch.set i (ak s)) (.n 1)))/\eK (H.put c (.cells (ch.set i (ak s)) (.n 1))) c n λj=>if j=i then s else f j:=by
 refine⟨aC.put (.refl g) a b7 (by simp) _,_,bO,by simp[cH],λj d=>?_⟩;by_cases e:j=i
 ·subst e;rw[tk (by omega)];simp
 ·rw[o2 (Ne.symm e),b j d];simp[e]
theorem eK.gw{c n b:Nat}{f:Nat->List UInt8}(h:eK H c n f)(a:b≠c)(x:bz):eK (H.put b x) c n f:=let ⟨d,e,g⟩:=h;⟨d,by rw[a6 (Ne.symm a)];exact e,g⟩
theorem eK.strs{c n:Nat}{f:Nat->List UInt8}(h:eK H c n f){cap:Nat}:fp H (.slice (some ⟨c,0,none⟩) n cap) ((List.range n).map f):=by
 obtain⟨b,d,_,e⟩:=h;refine⟨some ⟨c,0,none⟩,cap,by simp,λi a=>?_⟩;have a:i<n:=by simpa using a
 exact⟨c,0,_,b,_,rfl,d,rfl,by rw[Nat.zero_add];exact e i a,f i,by simp[a],rfl⟩
theorem At(v:Value):∀n,(times [v] n).length=n
 | 0=>rfl
 | n+1=>by rw[times,o4,At v n];simp;omega
theorem xP(v:Value):∀n i,i<n->(times [v] n)[i]? = some v
 | n+1,0,_=>by simp[times]
 | n+1,i+1,_=>by
   have:=xP v n i (by omega);simpa [times]using this
theorem TM(g:fC X)(d:bl pm ai){n:Nat}(j:n<=1000):Call X pm F.qQ [.int .i64 (n:Int)] ai λr ab=>K pm ai ab/\∃c,r=.slice (some ⟨c,0,none⟩) n n/\ai.next<=c/\eK ab c n λ_=>[48]:=by
 refine Call.W g.qQ rfl λ_ h=>?_;simp[nO (b7:=show n<=1073741824 by omega) (cH:=show 16*n<=17179869184 by omega) d.tock,-LL];obtain⟨c,f⟩:∃c,c=ai.next:=⟨_,rfl⟩;have a:K pm ai (ai.new (.cells (times [ak []] n) (.n 1))):=K.new d _;have e:eK (ai.new (.cells (times [ak []] n) (.n 1))) c n λi=>if i<0 then[48] else[]:=⟨_,by rw[f];exact cc,At _ n,λi b=>by simpa using xP (ak []) n i b⟩
 have g:pm.may c=true:=d.may (by omega);rw[<-f];refine er (σ:=Unit) n (λ_ _=>[(3,.slice (some ⟨c,0,none⟩) n n)]) (λk _ ab=>K pm ai ab/\eK ab c n λi=>if i<k then[48] else[]) () (by simp) ⟨a,e⟩ ?_ ?_
 ·rintro k _ _ d ⟨a,j,f,l,n⟩;obtain⟨o,p⟩:=eK.put (m:=ai.next) a.q (by omega) f l n d [48];simp[f,d,g,show k<j.length by omega];refine⟨aC.trans a o,p.congr λi b=>?_⟩;by_cases c:i=k
  ·subst c;simp
  ·by_cases d:i<k
   ·simp[c,d,show i<k+1 by omega]
   ·simp[c,d,show ¬i<k+1 by omega]
 ·rintro _ _ ⟨a,e⟩;simp;refine h _ _ _ ?_;simp;exact⟨a,by omega,e.congr λi b=>by simp[b]⟩
section
variable{P:bM}{aW:Nat}{aj:Nat->Nat}{lc bJ:Value}{T:bu}{c:Nat->Rat}{aa:ar}
theorem RW(h:fC X)(d:bl pm ai)(q:aa.ok)(l:ns aa P c)(aP:cT P aW ai aj lc bJ T)(s:hO ai lc aa.a){t:Nat}(u:t<=20000)(v:js P T t):
 Call X pm F.qN [.pointer (some ⟨aj 0,0,none⟩)] ai λr ab=>K pm ai ab/\∃c,r=.slice (some ⟨c,0,none⟩) P.n P.n/\ai.next<=c/\eK ab c P.n λj=>bk (T.v j):=by
 refine Call.W h.qN rfl λ_ t=>?_;have n:=l.ok q;have q:=n.n;have q:=n.m;obtain⟨_,_,rfl,_⟩:=s.at;have n:=aP.t;simp only[<-l.n]at n;simp[n,nO (b7:=show P.n<=1073741824 by omega) (cH:=show 16*P.n<=17179869184 by omega) d.tock,-Lk];obtain⟨e,o⟩:∃c,c=ai.next:=⟨_,rfl⟩;have a:K pm ai (ai.new (.cells (times [ak []] P.n) (.n 1))):=K.new d _;have g:eK (ai.new (.cells (times [ak []] P.n) (.n 1))) e P.n λi=>if i<0 then bk (T.v i) else[]:=⟨_,by rw[o];exact cc,At _ P.n,λi f=>by simpa using xP (ak []) P.n i f⟩
 have w:pm.may e=true:=d.may (by omega);rw[<-o];refine er (σ:=Unit) P.n (λ_ _=>[(0,.pointer (some ⟨aj 0,0,none⟩)),(3,.slice (some ⟨e,0,none⟩) P.n P.n)]) (λk _ ab=>K pm ai ab/\eK ab e P.n λi=>if i<k then bk (T.v i) else[]) () (by simp) ⟨a,g⟩ ?_ ?_
 ·rintro k _ l j ⟨a,r,p,x,y⟩;have e:=aP.k d a;have d:=e.t;rw[dA (b:=aj 1) (show 0<P.n+P.m by omega)]at d;obtain⟨aq,n,_,o⟩:=e.v (by omega);obtain⟨_,_,e,_,c,q,s⟩:=o k (by omega);simp[d,n,q,show k<P.n+P.m by omega,-Ll];refine al.of (aq:=[e]) (mn h.toEL a.q s.v.of ((v.v k (by omega)).v.bo (a8 u (by decide)))) ?_;rintro _ l ⟨rfl,rfl⟩;obtain⟨d,e⟩:=eK.put (m:=ai.next) a.q (by omega) p x y j (bk (T.v k));simp[p,j,w,show k<r.length by omega];refine⟨aC.trans a d,e.congr λi f=>?_⟩;by_cases e:i=k
  ·rw[e];simp
  ·by_cases c:i<k
   ·simp[e,c,show i<k+1 by omega]
   ·simp[e,c,show ¬i<k+1 by omega]
 ·rintro _ _ ⟨a,g⟩;simp;refine t _ _ _ ?_;simp;exact⟨a,by omega,g.congr (ic:=λj=>bk (T.v j)) λi f=>by simp[f]⟩
end
section
variable{P:bM}{aW:Nat}{aj:Nat->Nat}{lc bJ:Value}{T:bu}{c:Nat->Rat}{aa:ar}
def nF(P:bM)(T:bu)(d:Nat->Rat):Nat->Nat->List UInt8
 | 0,_=>[48]
 | k+1,i=>if T.a k=P.n+i then bk (d k) else nF P T d k i
theorem OD(l:fC X)(g:bl pm ai)(C:aa.ok)(h:ns aa P c)(aP:cT P aW ai aj lc bJ T)(D:hO ai lc aa.a)(E:jn ai bJ aa.rows)(G:dT P T){d:Nat->Rat}{w:Value}(H:jM ai w P.n d){h0:Nat}(I:h0<=30000000)(J:∀k,k<P.n->aV (d k) h0):
 Call X pm F.qI [.pointer (some ⟨aj 0,0,none⟩),w] ai λr ab=>K pm ai ab/\∃c,r=.slice (some ⟨c,0,none⟩) P.m P.m/\ai.next<=c/\eK ab c P.m (nF P T d P.n):=by
 refine Call.W l.qI rfl λ_ L=>?_;have q:=h.ok C;have C:=q.n;have C:=q.m;have M:h0<=gZ:=a8 I (by decide);obtain⟨_,_,rfl,_⟩:=D.at;obtain⟨_,_,rfl,_⟩:=E.at;obtain⟨N,O,rfl,Q⟩:=H.ex;have o:=aP.t;simp only[<-h.n,<-h.m]at o;simp[o,-Kt,-Ku];refine al.of (aq:=[.int .i64 (P.m:Int)]) (TM l g (n:=P.m) (by omega)) ?_;rintro _ _ ⟨s,p,rfl,t,C⟩;have R:∀q,Perm.may ⟨pm.ah,pm.ok,q⟩ p=true:=λq=>ej (a8 g.ah t);obtain⟨D,E,S⟩:=qA (aj 3) P.n;have q:=s.some g o;rw[E]at q;simp[q,-Ks];refine er (σ:=Unit) P.n (λ_ _=>[(0,.pointer (some ⟨aj 0,0,none⟩)),(1,.slice N P.n O),(5,.slice (some ⟨p,0,none⟩) P.m P.m),(18,.slice D P.n P.n)]) (λk _ ab=>K pm ai ab/\eK ab p P.m (nF P T d k)) () (by simp) ⟨s,C⟩ ?_ ?_
 ·rintro k _ r b ⟨e,u,j,v,w⟩;obtain rfl:=S (by omega);have a:=e.q;have o:=aP.k g e;have f:=o.t;simp only[<-h.n,<-h.m]at f;obtain⟨_,x,_,h⟩:=o.c (by omega);have n:=h k b;have h:=G.c k b;by_cases F:P.n<=T.a k
  ·obtain⟨i,y⟩:∃i,T.a k=P.n+i:=⟨T.a k-P.n,by omega⟩;have z:i<P.m:=by omega
   obtain⟨_,_,_,_,T,rfl,h,U,V,o⟩:=Q k b;have A:=e.some g h;have B:=o.up e;have W:=a.lt f;have X:=a.lt A;have Y:=a.lt j;rw[y]at n;have Z:wr .i64 ((P.n:Int)+(i:Int)-(P.n:Int))=(i:Int):=by
    rw[cE];omega
   simp[x,n,b,f];refine⟨λ_=>?_,λ_=>by omega⟩;refine cx.of a.ah rfl ?_;have c:K pm r (r.up 16):=(K.refl a).up 16;simp[b8,a.none,a.O,f,A,U,V,b,Z];have aa:=c.some a j;have ab:=λm=>jT (B.up c) (c.some a f) m;refine cY c.q (aq:=[T]) (by simp[a.none]) rfl (λ_ g=>g' g (mn l.toEL g (B.up c).of ((J k b).bo M))) ?_;rintro _ _-⟨rfl,rfl⟩;obtain⟨g,h⟩:=eK.put (m:=ai.next) c.q t aa v w z (bk (d k));simp[a.none,j,z,R,show i<u.length by omega,b3,bZ,W,X,Y, cU,ab];refine⟨aC.trans (K.trans e c) g,h.congr λ_ _=>?_⟩;rw[nF,y];grind
  ·simp[x,n,b,f];refine⟨λh=>absurd h F,λ_=>⟨e,u,j,v,λi a=>?_⟩⟩;rw[w i a,nF,aw (by omega)]
 ·rintro _ _ ⟨_,_⟩;simp;refine L _ _ _ ?_;simp;grind
end
section
variable{P:bM}{aW:Nat}{aj:Nat->Nat}{lc bJ:Value}{T:bu}{c:Nat->Rat}{aa:ar}
def j3(P:bM)(T:bu)(a k:Nat):Rat:=if 0<off P T.v (T.rows a) then -T.M a k else T.M a k
def lF(P:bM)(T:bu)(a i:Nat):List UInt8:=if T.rows a=P.n+i then(if 0<off P T.v (T.rows a) then[49] else[45,49]) else nF P T (j3 P T a) P.n i
theorem abc(l:fC X)(f:bl pm ai)(G:aa.ok)(s:ns aa P c)(aP:cT P aW ai aj lc bJ T)(H:hO ai lc aa.a)(U:jn ai bJ aa.rows)(I:dT P T){t:Nat}(L:t<=20000)(n:js P T t){a:Nat}(aI:a<P.m):
 Call X pm F.sf [.pointer (some ⟨aj 0,0,none⟩),.int .i64 (a:Int)] ai λr ab=>K pm ai ab/\∃c,r=.slice (some ⟨c,0,none⟩) P.m P.m/\ai.next<=c/\eK ab c P.m (lF P T a):=by
 refine Call.W l.sf rfl λ_ u=>?_;have v:=s.ok G;have J:=v.n;have J:=v.m;have o:0<P.m:=by omega
 have J:0<P.n+P.m:=by omega
 have V:t<=gZ:=a8 L (by decide);have L:=aP.t;rw[dA (b:=aj 1) J,dA (b:=aj 2) o]at L;obtain⟨_,W,_,v⟩:=aP.r o;have Y:=v a aI;have v:=I.r a aI;obtain⟨aq,Z,vb,vc,v1,v2,v3⟩:=(aP.v J).load v;simp[L,W,Y,aI,v1,v2,v,-LG,-LC];refine al.of (aI:=by simp[bA]) (aq:=[.agg #[Z,vb,vc]]) (HS l f v3 (n.v _ v) (by omega)) ?_;rintro _ w ⟨p,rfl⟩;have h:=p.q;have v:=aP.k f p;have x:=v.t;obtain⟨_,J,_⟩:=qA (aj 3) P.n;rw[J,dA (b:=aj 4) o]at x;obtain⟨_,m1,_,J⟩:=v.m o;have aa:=J a aI;obtain⟨g,y⟩:∃c,c=w.next:=⟨_,rfl⟩;obtain⟨q,z⟩:∃q,q=w.new (.cells (times [.pointer none] P.n) (.n 1)):=⟨_,rfl⟩;have o:K pm w q:=by rw[z];exact K.new h _
 have v:=o.q;have M:pm.may g=true:=h.may (by omega);have N:ai.next<=g:=by rw[y];exact p.next
 simp[x,nO (b7:=show P.n<=1073741824 by omega) (cH:=show 8*P.n<=17179869184 by omega) h.tock,<-z,<-y,o.some h x,o.some h m1,aa,aI,-LB,-LF];have h:=p.trans o;have o:dD q g P.n 0 (j3 P T a):=⟨_,by rw[z,y];exact cc,At _ P.n,λi d=>absurd d (gS _)⟩;have p:∀(ab:ae),aj (5+a)≠g:=λ_=>by
  have:=aP.lt f aI;omega
 refine er (σ:=Unit) P.n (λ_ _=>[(0,.pointer (some ⟨aj 0,0,none⟩)),(1,.int .i64 (a:Int)),(5,.int .i64 (T.rows a:Int)),(6,.bool (decide (0<off P T.v (T.rows a)))),(7,.slice (some ⟨g,0,none⟩) P.n P.n),(39,.slice (some ⟨aj (5+a),0,none⟩) P.n P.n)]) (λk _ ab=>K pm ai ab/\dD ab g P.n k (j3 P T a)) () (by simp) ⟨h,o⟩ ?_ ?_
 ·rintro k _ Q c ⟨e,h⟩;have o:=e.q;obtain⟨_,R,_,p⟩:=(aP.k f e).row a aI;obtain⟨_,S,j⟩:=p k c;obtain⟨C,D,p,q⟩:=h;obtain⟨b,t⟩:=dD.put (m:=ai.next) o N D p q c j (dy:=k+1) (λi d=>by omega);obtain⟨E,rfl,_⟩:=id j;obtain⟨h,F⟩:∃h,h=Q.put g (.cells (C.set k (.pointer (some ⟨E,0,none⟩))) (.n 1)):=⟨_,rfl⟩;rw[<-F]at b t;simp[R,S,c,D,M,show k<C.length by omega,<-F,-LI];refine⟨λT=>?_,λ_=>⟨aC.trans e b,t.congr λA X=>?_⟩⟩
  ·have h:=j.up b;refine al.of (aq:=[.pointer (some ⟨E,0,none⟩)]) (A7 l.toEL b.q h.of ((n.M a k aI c).bo V)) ?_;rintro r _ ⟨B,K⟩;obtain⟨es,O,h,j⟩:=t.k b.q B;obtain⟨u6,d6⟩:=dD.put (m:=ai.next) B.q N O h j c K (dy:=k+1) (λi d=>by omega);obtain⟨_,rfl,_⟩:=id K;simp[O,c,M,show k<es.length by omega];refine⟨aC.trans ((aC.trans e b).trans (B.mono (a8 e.next b.next))) u6,d6.congr λA X=>?_⟩;by_cases P:A=k
   ·subst P;simp[j3,T]
   ·simp[P]
  ·by_cases a:A=k
   ·subst a;simp[j3];omega
   ·simp[a]
 ·rintro _ _ ⟨c,X⟩;have g3:=c.q;have t3:=aP.k f c;have ab:∀k,k<P.n->aV (j3 P T a k) t:=λk O=>by
   unfold j3;split
   ·exact r2 (n.M a k aI O)
   ·exact n.M a k aI O
  simp[-LH,-LD];refine al.of (aq:=[.pointer (some ⟨aj 0,0,none⟩),.slice (some ⟨g,0,none⟩) P.n P.n]) (OD l g3 G s t3 (H.ext (c.ext f)) (U.ext (c.ext f)) I X.row (h0:=t) (by omega) ab) ?_;rintro _ A ⟨Q,e,rfl,he,R⟩;have B:=c.trans Q;have r:=B.some f aP.t;obtain⟨_,_,rfl,_⟩:=H.at;simp only[<-s.n]at r;have j:ai.next<=e:=a8 c.next he;have ad:pm.may e=true:=f.may j;by_cases hx:P.n<=T.rows a
  ·obtain⟨i,d⟩:∃i,T.rows a=P.n+i:=⟨T.rows a-P.n,by omega⟩;have t:i<P.m:=by omega
   have ae:wr .i64 ((P.n:Int)+(i:Int)-(P.n:Int))=(i:Int):=by
    rw[cE];omega
   obtain⟨C,S,c,g⟩:=R;obtain⟨D,E⟩:=eK.put (m:=ai.next) Q.q j S c g t [45,49];obtain⟨b,F⟩:∃b,b=A.put e (.cells (C.set i (ak [45,49])) (.n 1)):=⟨_,rfl⟩;rw[<-F]at D E;obtain⟨g,k,l,n⟩:=id E;have c:=λy (h:A.get (aj 0)=some y)=>show b.get (aj 0)=some y by
    rw[F,a6 (by have:=f.lt aP.t;omega)];exact h
   have c:=c _ r;obtain⟨o,p⟩:=eK.put (m:=ai.next) D.q j k l n t [49];have f:K pm ai b:=aC.trans B D;rw[d];simp[r];refine⟨λ_=>?_,λh=>by omega⟩;have l:A.put e (.cells (C.set i (.string ⟨#[45,49]⟩)) (.n 1))=b:=F.symm;simp[ae,t,S,ad,show i<C.length by omega,l,c,k,show i<g.length by omega];have k:(decide (0<off P T.v (T.rows a))=false)->eK b e P.m (lF P T a):=λh=>E.congr λc n=>by
    rw[lF,d];by_cases e:c=i
    ·have h:¬0<off P T.v (T.rows a):=by simpa using h
     rw[d]at h;simp[e,h]
    ·rw[aw (by omega),aw e]
   have l:(0<off P T.v (T.rows a))->eK (b.put e (.cells (g.set i (ak [49])) (.n 1))) e P.m (lF P T a):=λh=>p.congr λc n=>by
    rw[lF,d];by_cases e:c=i
    ·rw[d]at h;simp[e,h]
    ·rw[aw (by omega),aw e,aw e]
   rw[d]at k l;refine⟨λh=>?_,λh=>?_⟩
   ·refine u _ _ _ ?_;simp;exact⟨aC.trans f o,j,l h⟩
   ·refine u _ _ _ ?_;simp;exact⟨f,j,k (by simpa using h)⟩
  ·simp[r];refine⟨λh=>absurd h hx,λ_=>?_⟩;refine u _ _ _ ?_;simp;refine⟨B,j,R.congr (ic:=lF P T a) λi d=>?_⟩;rw[lF,aw (by omega)]
end
section
variable{P:bM}{aW:Nat}{aj:Nat->Nat}{lc bJ:Value}{T:bu}{c:Nat->Rat}{aa:ar}
def lC(T:bu)(ad:Nat)(aM:Int):Nat->Nat->List UInt8
 | 0,x=>if x=T.a ad then bk (aM:Rat) else[48]
 | i+1,x=>if x=T.rows i then bk (T.M i ad*(aM:Rat)) else lC T ad aM i x
theorem aar(e:fC X)(j:bl pm ai)(L:aa.ok)(u:ns aa P c)(aP:cT P aW ai aj lc bJ T)(Z:hO ai lc aa.a)(y:dT P T){t:Nat}(ht:t<=20000)(hs:js P T t){ad:Nat}(f:ad<P.n){aM:Int}(af:aM=1∨aM=-1):
 Call X pm F.se [.pointer (some ⟨aj 0,0,none⟩),.int .i64 (ad:Int),.int .i64 aM] ai λr ab=>K pm ai ab/\∃c,r=.slice (some ⟨c,0,none⟩) P.n P.n/\ai.next<=c/\eK ab c P.n (lC T ad aM P.m):=by
 refine Call.W e.se rfl λaa hQ=>?_;have z:=u.ok L;have L:=z.n;have L:=z.m;have A:0<P.n:=by omega
 have ag:t<=gZ:=a8 ht (by decide);have v:aV (aM:Rat) 1:=by
  rcases af with rfl | rfl<;>exact⟨by decide,by decide⟩
 obtain⟨_,_,rfl,_⟩:=Z.at;have z:=aP.t;simp only[<-u.n]at z;simp[z,-Ln,-Lp];refine al.of (aq:=[.int .i64 (P.n:Int)]) (TM e j (n:=P.n) (by omega)) ?_;rintro _ _ ⟨l,k,rfl,o,B⟩;have C:=l.q;have D:∀z,Perm.may ⟨pm.ah,pm.ok,z⟩ k=true:=λz=>ej (a8 j.ah o);have z:=aP.k j l;have p:=z.t;simp only[<-u.n]at p;rw[dA (b:=aj 3) A]at p;obtain⟨_,E,_,u⟩:=z.c A;have G:=u ad f;have u:=y.c ad f;have H:∀(g:ae) (L:bn),K pm ai g->eK g k P.n (lC T ad aM 0)->aF 0 L=some (.pointer (some ⟨aj 0,0,none⟩))->aF 1 L=some (.int .i64 (ad:Int))->aF 2 L=some (.int .i64 aM)->aF 7 L=some (.slice (some ⟨k,0,none⟩) P.n P.n)->wp X pm (.code vp) L g [] aa:=by
  intro g L u L z Z l2 l7;have A:=u.q;have A:=u.some j aP.t;obtain⟨b2,e2,ae⟩:=qA (aj 2) P.m;rw[e2]at A;simp[z,A,-Lm];refine er (σ:=Unit) P.m (λ_ _=>[(0,.pointer (some ⟨aj 0,0,none⟩)),(1,.int .i64 (ad:Int)),(2,.int .i64 aM),(7,.slice (some ⟨k,0,none⟩) P.n P.n),(38,.slice b2 P.m P.m)]) (λi _ ab=>K pm ai ab/\eK ab k P.n (lC T ad aM i)) () (by simp[z,Z,l2,l7]) ⟨u,L⟩ ?_ ?_
  ·rintro i _ F c ⟨q,I,w,J,M⟩;obtain rfl:=ae (by omega);have a:=q.q;have k:=aP.k j q;obtain⟨_,N,_,j⟩:=k.r (by omega);have O:=j i c;have j:=y.r i c;by_cases d:T.rows i<P.n
   ·have x:=k.t;rw[dA (b:=aj 4) (show 0<P.m by omega)]at x;obtain⟨_,Q,_,j⟩:=k.m (by omega);have ab:=j i c;obtain⟨_,R,_,j⟩:=k.row i c;obtain⟨pc,ah,ak⟩:=j ad f;have q0:=a.lt x;have q1:=a.lt Q;have q2:=a.lt R;have q3:=a.lt w;have S:=hs.M i ad c f;simp[N,O,c,d];refine cx.of a.ah rfl ?_;have U:K pm F (F.up 18):=(K.refl a).up 18;simp[b8,a.none,a.O,x,Q,ab,c,R,ah,f];refine cY U.q (aq:=[.int .i64 aM]) (by simp[a.none]) rfl (λV h=>ml e.toEL h (n:=aM) (by omega) (by omega)) ?_;rintro j _ r f6;have k:=r.res a;have W:=U.trans r;simp;refine fG r.q (aq:=[pc,j]) (by simp[k]) rfl (λV h=>og e.toEL h (ak.up W).of f6.of (S.bo ag) (v.bo (by decide))) ?_;rintro j _ s f7;have X:=(K.trans r s).res a;have Y:=W.trans s;simp;refine fG s.q (aq:=[j]) (by simp[X]) rfl (λV h=>g' h (mn e.toEL h f7.of ((jk S v).bo (a8 (show t+1<=30000 by omega) (by decide))))) ?_;rintro _ _-⟨rfl,rfl⟩;have h:=Y.some a w;obtain⟨a,j⟩:=eK.put (m:=ai.next) s.q o h J M d (bk (T.M i ad*(aM:Rat)));simp[X,h,d,D,show T.rows i<I.length by omega,b3,bZ,q0,q1,q2,q3,fT,cU,dj];refine⟨aC.trans (q.trans Y) a,j.congr λ_ _=>?_⟩;rw[lC]
   ·simp[N,O,c,d];refine⟨q,I,w,J,λj a=>?_⟩;rw[M j a,lC,aw (by omega)]
  ·rintro _ _ ⟨a,b⟩;simp;refine hQ _ _ _ ?_;simp;exact⟨a,o,b⟩
 by_cases d:T.a ad<P.n
 ·simp[p,E,G,f,d,-vp,-Lo];refine al.of (aq:=[.int .i64 aM]) (ml e.toEL C (n:=aM) (by omega) (by omega)) ?_;rintro r g ⟨a,b⟩;simp[-vp,-Lq];refine al.of (aq:=[r]) (mn e.toEL a.q b.of (v.bo (by decide))) ?_;rintro _ g ⟨rfl,rfl⟩;obtain⟨c,b,e,g⟩:=B.k C a;obtain⟨h,i⟩:=eK.put (m:=ai.next) a.q o b e g d (bk (aM:Rat));have e:=D pm.num;simp[b,d,e,show T.a ad<c.length by omega,-vp];refine H _ _ (aC.trans (l.trans a) h) i (by simp) (by simp) (by simp) (by simp)
 ·simp[p,E,G,f,d,-vp];refine H _ _ l (B.congr λ_ _=>?_) (by simp) (by simp) (by simp) (by simp);rw[lC,aw (by omega)]
end
def kq(f:Nat->Rat)(c:dL):Nat->Rat:=λj=>if j=c.ad.toNat then rd c.v else f j
def hs(l:List dL):Nat->Rat:=l.foldl kq λ_=>0
def ar.j(aa:ar):bM where
 n:=aa.a.length
 m:=aa.rows.length
 ah:=λx=>if x<aa.a.length then fl (aa.ad x).low else if(aa.row (x-aa.a.length)).kind=1 then none else fl (aa.row (x-aa.a.length)).rhs
 up:=λx=>if x<aa.a.length then fl (aa.ad x).up else if(aa.row (x-aa.a.length)).kind=3 then none else fl (aa.row (x-aa.a.length)).rhs
 A:=λi j=>hs (aa.row i).G j
def ar.cs(aa:ar)(j:Nat):Rat:=rd (aa.ad j).cost
def ar.v0(aa:ar)(x:Nat):Rat:=tF (fl (aa.ad x).low) (fl (aa.ad x).up)
def ar.Y(aa:ar):bu where
 v:=λx=>if x<aa.a.length then aa.v0 x else gM (aa.row (x-aa.a.length)).G aa.v0
 rows:=λi=>aa.a.length+i
 a:=λk=>k
 M:=λi j=>hs (aa.row i).G j
theorem ar.Zb(aa:ar):ns aa aa.j aa.cs:=⟨rfl,rfl,λ_ _=>rfl⟩
def Real(b a c j:Nat):Prop:=j=0∨(j=1/\0<b)∨((j=2∨j=4)/\0<a)∨(j=3/\0<c)∨(5<=j/\j<5+a)
structure hx(P:bM)(aW:Nat)(H:ae)(aj:Nat->Nat)(lc bJ:Value)(oP dv eg:Nat)(T:bu):Prop where
 t:H.get (aj 0)=some (.cells [lc,bJ,aZ (aj 1) oP,aZ (aj 2) dv,aZ (aj 3) eg,aZ (aj 4) dv] (.t tyT))
 v:0<oP->tW H P (aj 1) oP T.v
 r:0<dv->pG H (aj 2) dv T.rows
 c:0<eg->pG H (aj 3) eg T.a
 m:0<dv->x6 H (aj 4) dv P.n aj
 row:∀i,i<dv->dD H (aj (5+i)) P.n P.n (T.M i)
 inj:∀i j,Real oP dv eg i->Real oP dv eg j->aj i=aj j->i=j
 ge:∀i,Real oP dv eg i->aW<=aj i
section
variable{P:bM}{aW:Nat}{aj:Nat->Nat}{lc bJ:Value}{T:bu}{oP dv eg:Nat}
theorem hx.k(h:hx P aW H aj lc bJ oP dv eg T)(g:bl pm H)(k:K pm H ab):hx P aW ab aj lc bJ oP dv eg T where
 t:=k.some g h.t
 v:=λa=>(h.v a).ext k λ_ e=>k.some g e
 r:=λa=>(h.r a).ext λ_ e=>k.some g e
 c:=λa=>(h.c a).ext λ_ e=>k.some g e
 m:=λa=>(h.m a).ext λ_ e=>k.some g e
 row:=λi a=>(h.row i a).ext k λ_ e=>k.some g e
 inj:=h.inj
 ge:=h.ge
theorem hx.lt(h:hx P aW H aj lc bJ oP dv eg T)(g:bl pm H){j:Nat}(b:Real oP dv eg j):aj j<H.next:=by
 rcases b with rfl | ⟨rfl,a⟩ | ⟨rfl | rfl,a⟩ | ⟨rfl,a⟩ | ⟨a,_⟩
 ·exact g.lt h.t
 ·obtain⟨_,e,_⟩:=h.v a;exact g.lt e
 ·obtain⟨_,e,_⟩:=h.r a;exact g.lt e
 ·obtain⟨_,e,_⟩:=h.m a;exact g.lt e
 ·obtain⟨_,e,_⟩:=h.c a;exact g.lt e
 ·obtain⟨i,rfl⟩:∃i,j=5+i:=⟨j-5,by omega⟩;obtain⟨_,e,_⟩:=h.row i (by omega);exact g.lt e
theorem hx.full(h:hx P aW H aj lc bJ (P.n+P.m) P.m P.n T)(g:bl pm H)(z:aW<=H.next):∃d,d 0=aj 0/\cT P aW H d lc bJ T:=by
 have l:∀m n k,(0<k->n=m)->aZ n k=aZ m k:=λm n k o=>by
  by_cases e:k=0
  ·subst e;rfl
  grind
 obtain⟨R,a⟩:∃R:Nat->Prop,R=Real (P.n+P.m) P.m P.n:=⟨_,rfl⟩;have A:∀j,Decidable (R j):=λj=>by rw[a];unfold Real;exact inferInstance
 obtain⟨d,o⟩:∃d:Nat->Nat,d=λj=>if R j then aj j else H.next+j:=⟨_,rfl⟩
 have b:∀j,R j->d j=aj j:=λj p=>by grind
 have q:R 0:=by rw[a];exact .inl rfl
 have x:∀i,i<P.m->R (5+i):=λi f=>by rw[a];exact .inr (.inr (.inr (.inr ⟨by omega,by omega⟩)))
 have r:0<P.n+P.m->R 1:=λh=>by rw[a];exact .inr (.inl ⟨rfl,h⟩)
 have s:0<P.m->R 2:=λh=>by rw[a];exact .inr (.inr (.inl ⟨.inl rfl,h⟩))
 have t:0<P.m->R 4:=λh=>by rw[a];exact .inr (.inr (.inl ⟨.inr rfl,h⟩))
 have u:0<P.n->R 3:=λh=>by rw[a];exact .inr (.inr (.inr (.inl ⟨rfl,h⟩)))
 refine⟨d,b 0 q,?_,λc=>?_,λc=>?_,λc=>?_,λc=>?_,λi f=>?_,λi j f p e=>?_,λi f=>?_⟩
 ·rw[b 0 q,l _ _ _ λh=>b 1 (r h),l _ _ _ λh=>b 2 (s h),l _ _ _ λh=>b 3 (u h),l _ _ _ λh=>b 4 (t h)];exact h.t
 ·rw[b 1 (r c)];exact h.v c
 ·rw[b 2 (s c)];exact h.r c
 ·rw[b 3 (u c)];exact h.c c
 ·rw[b 4 (t c)];obtain⟨g,v,w,_⟩:=h.m c;exact⟨g,v,w,λi f=>by grind⟩
 ·rw[b _ (x i f)];exact h.row i f
 ·have lt:∀j,R j->aj j<H.next:=λj p=>h.lt g (a▸p);rw[o]at e;simp only at e;by_cases v:R i<;>by_cases w:R j<;>simp only[v,w,if_true,if_false]at e
  ·exact h.inj i j (a▸v) (a▸w) e
  ·grind
  ·grind
  ·omega
 ·rw[o];simp only;split
  ·rename_i y;exact h.ge i (a▸y)
  ·omega
end
def ia(H:ae)(c i:Nat):ae:=if i=0 then H else H.put c .dead
def tY(c i:Nat):List Nat:=if i=0 then[] else[c]
def tZ(c i b:Nat):List Nat:=if i=0 then[b] else[c,b]
theorem ib{c i b:Nat}(h:0<i->b≠c):(ia H c i).get b=H.get b:=by
 unfold ia;split
 ·rfl
 ·rw[a6 (h (by omega))]
@[simp] theorem rb{c i:Nat}:(ia H c i).next=H.next:=by unfold ia;split<;>rfl
theorem vK{c i b x:Nat}(h:0<i->c≠x) (a:b≠x:=by omega):c6 (tZ c i b) [x]=true:=by
 unfold tZ;split
 ·exact gd a
 ·simp[c6,h (by omega),a]
theorem BY{c i b x:Nat}(h:0<i->c≠x)(a:b≠x):c6 [x] (tZ c i b)=true:=by
 unfold tZ;split
 ·exact gd (Ne.symm a)
 ·simp[c6,Ne.symm (h (by omega)),Ne.symm a]
theorem BX{c i y x:Nat}(h:0<i->c≠x)(a:y≠x):c6 [x] (y::tY c i)=true:=by
 unfold tY;split
 ·exact gd (Ne.symm a)
 ·simp[c6,Ne.symm (h (by omega)),Ne.symm a]
theorem vJ{c i s x:Nat}(h:0<i->c<s)(a:x∈tY c i):x<s:=by
 unfold tY at a;split at a
 ·cases a
 ·simp at a;rw[a];exact h (by omega)
theorem aC.ia(u:aC pm n H ab){c i:Nat}{ch:List Value}{z:cM}(h:0<i->n<=c/\ab.get c=some (.cells ch z)):aC pm n H (C.ia ab c i):=by
 unfold C.ia;split
 ·exact u
 ·obtain⟨a,b⟩:=h (by omega);exact aC.put u a b (by simp) _
theorem vL{w cR c i ah b:Nat}{fJ:List Nat}{ch xs:List Value}(h:0<i->H.get c=some (.cells ch (.n w))/\ch.length=i*w/\Perm.may ⟨ah,fJ,some b⟩ c=true)(aP:i=0->ch=[])(d:xs.all dd=true)(e:1<=w)(g:i<1000000)(g:cR<=200):
 (fj w cR (aZ c i) xs 1).runT ⟨ah,fJ,some b⟩ H=some (aZ b (i+1),(ia H c i).put b (.cells (ch++xs) (.n w)),tY c i,tZ c i b):=by
 have a:(i+1)*cR<=17179869184:=a8 (nZ _ g) (by omega);by_cases f:i=0
 ·subst f;rw[aP rfl];unfold fj;simp at a;simp only[d,aZ];simp[Perm.make,Perm.pick,a,e,ia,tY,tZ];done
 ·obtain⟨b,c,g⟩:=h (by omega);have j:bB ch 0 (i*w)=some ch:=by rw[<-c];exact G1 ch
  rw[dA (by omega),dA (by omega)];unfold fj;simp only[d];simp[Perm.make,Perm.pick,a,b,j,g,e,show ¬(i+1<=i) by omega,show i+1<=17179869184 by omega,ia,tY,tZ,f];done
abbrev tyB:Nat:=T.acs
abbrev tyX:Nat:=T.acw
section
variable{aW:Nat}{aj:Nat->Nat}{lc bJ:Value}{aa:ar}
theorem YM(_:fC X)(d:bl pm ai)(aG:pm.ah<=aW)(hn:aW<=ai.next)(ho:aa.ok)(_:aa.I=true){k:Nat}(av:k<aa.a.length)(aP:hx aa.j aW ai aj lc bJ k 0 k aa.Y){aK eu:Nat}{z:cM}{fm dB cj:Value}(_:aW<=eu)(ae:∀j,Real k 0 k j->aj j≠eu)
 (q:ai.get eu=some (.cells [fm,dB,cj] z)) (_:∀o,bz.cells [fm,dB,cj] z≠.cf o) (hv:mj ai aa.j aa.Y.v k fm dB cj) (aH:[fm,dB,cj].all dd=true) {L:bn} (l1:aF 1 L=some (.pointer (some ⟨aK,0,none⟩))) (l3:aF 3 L=some (.pointer (some ⟨aj 0,0,none⟩))) (l4:aF 4 L=some (.int .i64 (k:Int))) (l6:aF 6 L=some (.pointer (some ⟨eu,0,none⟩))) {JP:Value} (aI:aF 18 L=some JP)
 (aJ:aF 19 L=some (.int .i64 (aa.a.length:Int))) (aL:aF 20 L=some (.int .i64 (k:Int))) {Q:cl}
 (aM:∀aU ab l,aC pm aW ai ab->(∀b,(∀j,Real k 0 k j->b≠aj j)->b<ai.next->ab.get b=ai.get b)->l 0=aj 0->hx aa.j aW ab l lc bJ (k+1) 0 (k+1) aa.Y->Sub [(20,.int .i64 (k:Int)),(19,.int .i64 (aa.a.length:Int)),(1,.pointer (some ⟨aK,0,none⟩)),(3,.pointer (some ⟨aj 0,0,none⟩)),(18,JP)] aU->Q .normal aU ab):
 wp X pm (.code AK) L ai [] Q:=by
 have ba:=ho.c;obtain⟨s,hs⟩:∃s,s=ai.next:=⟨_,rfl⟩;have T:=d.none;have au:=d.O;rw[<-hs]at T au;have af:=aP.t;have m:Real k 0 k 0:=.inl rfl;have r:0<k->Real k 0 k 1:=λh=>.inr (.inl ⟨rfl,h⟩);have t:0<k->Real k 0 k 3:=λh=>.inr (.inr (.inr (.inl ⟨rfl,h⟩)));have la:=aP.lt d m;have J:=λh=>aP.lt d (r h);have D:=λh=>aP.lt d (t h);have ba:=d.lt q;have aN:aj 0<s:=by omega
 have aO:eu<s:=by omega
 have ag:0<k->aj 0≠aj 1:=λh e=>absurd (aP.inj 0 1 m (r h) e) (by decide);have aQ:0<k->aj 0≠aj 3:=λh e=>absurd (aP.inj 0 3 m (t h) e) (by decide);have av:0<k->aj 1≠aj 3:=λh e=>absurd (aP.inj 1 3 (r h) (t h) e) (by decide);have ba:=ae 0 m;have ba:=λh=>ae 1 (r h);have ba:=λh=>ae 3 (t h);have ak:∀o b,aW<=b->Perm.may ⟨pm.ah,pm.ok,o⟩ b=true:=λo b h=>ej (a8 aG h);obtain⟨a,M,aw⟩:∃a,(0<k->ai.get (aj 1)=some (.cells a (.n 3))/\a.length=k*3/\∀x,x<k->∃U V c,a[x*3]? = some U/\a[x*3+1]? = some V/\a[x*3+2]? = some c/\mj ai aa.j aa.Y.v x U V c)/\(k=0->a=[]):=by
  by_cases e:k=0
  ·exact⟨[],λh=>by omega,λ_=>rfl⟩
  ·obtain⟨ch,N⟩:=aP.v (by omega);exact⟨ch,λ_=>N,λh=>absurd h e⟩
 obtain⟨f,O,ax⟩:∃f,(0<k->ai.get (aj 3)=some (.cells f (.n 1))/\f.length=k/\∀i,i<k->f[i]? = some (.int .i64 (aa.Y.a i:Int)))/\(k=0->f=[]):=by
  by_cases e:k=0
  ·exact⟨[],λh=>by omega,λ_=>rfl⟩
  ·obtain⟨ch,N⟩:=aP.c (by omega);exact⟨ch,λ_=>N,λh=>absurd h e⟩
 simp;refine cx.of d.ah rfl ?_;obtain⟨p,u⟩:∃A,A=(ai.up 22).put (s+7) (.cells [fm,dB,cj] (.n 3)):=⟨_,rfl⟩;have ay:K pm ai (ai.up 22):=(K.refl d).up 22;have W:K pm ai p:=by rw[u];exact aC.fill ay (by omega) (by show ai.get _=none;exact T 7) (by show s+7<ai.next+22;omega) _
 have al:∀j,j≠7->p.get (s+j)=none:=λj n=>by rw[u,a6 (by omega)];exact T j
 have aR:p.get (s+7)=some (.cells [fm,dB,cj] (.n 3)):=by rw[u];exact bO
 have Y:=vL (H:=p) (w:=3) (cR:=24) (c:=aj 1) (i:=k) (ah:=pm.ah) (fJ:=pm.ok) (b:=s+8) (ch:=a) (xs:=[fm,dB,cj]) (λh=>⟨W.some d (M h).1,(M h).2.1,ak _ _ (aP.ge 1 (r h))⟩) aw aH (by decide) (by omega) (by decide);obtain⟨P,E⟩:∃A,A=(ia p (aj 1) k).put (s+8) (.cells (a++[fm,dB,cj]) (.n 3)):=⟨_,rfl⟩;rw[<-E]at Y;have an:∀j,8<j->P.get (s+j)=none:=λj n=>by rw[E,a6 (by omega),ib (λh=>by have:=J h;omega)];exact al j (by omega)
 have az:∀b,b<s->(0<k->b≠aj 1)->P.get b=ai.get b:=λb g R=>by
  rw[E,a6 (by omega),ib R,u,a6 (by omega)];rfl
 have aS:=(az (aj 0) (by omega) ag).trans af;obtain⟨v,B⟩:∃A,A=P.put (s+14) (.cells [.int .i64 (k:Int)] (.n 1)):=⟨_,rfl⟩;have ao:∀j,14<j->v.get (s+j)=none:=λj n=>by rw[B,a6 (by omega)];exact an j (by omega)
 have aT:v.get (s+14)=some (.cells [.int .i64 (k:Int)] (.n 1)):=by rw[B];exact bO
 have aq:∀b,b<s->(0<k->b≠aj 1)->v.get b=ai.get b:=λb g R=>by rw[B,a6 (by omega)];exact az b g R
 have Z:=vL (H:=v) (w:=1) (cR:=8) (c:=aj 3) (i:=k) (ah:=pm.ah) (fJ:=pm.ok) (b:=s+15) (ch:=f) (xs:=[.int .i64 (k:Int)]) (λh=>⟨(aq _ (by have:=D h;omega) λh=>(av h).symm).trans (O h).1,by simpa using(O h).2.1,ak _ _ (aP.ge 3 (t h))⟩) ax (by rfl) (by decide) (by omega) (by decide);obtain⟨A4,F⟩:∃A,A=(ia v (aj 3) k).put (s+15) (.cells (f++[.int .i64 (k:Int)]) (.n 1)):=⟨_,rfl⟩;rw[<-F]at Z;have aA:∀j,15<j->A4.get (s+j)=none:=λj n=>by rw[F,a6 (by omega),ib (λh=>by have:=D h;omega)];exact ao j (by omega)
 have aB:∀b,b<s->(0<k->b≠aj 1)->(0<k->b≠aj 3)->A4.get b=ai.get b:=λb g R ae=>by
  rw[F,a6 (by omega),ib ae];exact aq b g R
 have aD:=(aB (aj 0) (by omega) ag aQ).trans af;obtain⟨A5,C⟩:∃A,A=A4.put (aj 0) (.cells [lc,bJ,aZ (s+8) (k+1),aZ (aj 2) 0,aZ (aj 3) k,aZ (aj 4) 0] (.t tyT)):=⟨_,rfl⟩;have aV:∀j,15<j->A5.get (s+j)=none:=λj n=>by rw[C,a6 (by omega)];exact aA j n
 have aE:A5.get (aj 0)=some (.cells [lc,bJ,aZ (s+8) (k+1),aZ (aj 2) 0,aZ (aj 3) k,aZ (aj 4) 0] (.t tyT)):=by rw[C];exact bO
 obtain⟨S,G⟩:∃A,A=A5.put (aj 0) (.cells [lc,bJ,aZ (s+8) (k+1),aZ (aj 2) 0,aZ (s+15) (k+1),aZ (aj 4) 0] (.t tyT)):=⟨_,rfl⟩;have aX:=λo=>ak o _ (aP.ge 0 m);have aY:∀b i,dd (aZ b i)=true:=λb i=>by unfold aZ;split<;>rfl
 have a1:∀b i,(aZ b i).cells=#[aZ b i]:=λb i=>by unfold aZ;split<;>rfl
 simp[b8,<-hs,T,au,l3,l4,l6,af,q,bB,bA,Perm.make,Perm.pick,<-u,al,aR,Y,an,aS,<-B,ao,aT,Z,aA,aD,aX,aY,a1,<-C,aV,aE,<-G,b3,bZ, cU,gd (show s+7≠aj 0 by omega),gd (show s+14≠aj 0 by omega), gd (show s+14≠eu by omega),vK (c:=aj 1) (i:=k) (b:=s+8) (x:=aj 0) (λh=>(ag h).symm), BY (c:=aj 1) (i:=k) (b:=s+8) (x:=s+14) (λh=>by have:=J h;omega) (by omega),BX (c:=aj 1) (i:=k) (y:=s+7) (x:=s+14) (λh=>by have:=J h;omega) (by omega),aN,aO];refine⟨⟨λx q=>.inl (.inl (.inl (vJ (λh=>by have:=J h;omega) q))),λx q=>.inl (.inl (.inl (vJ (λh=>by have:=D h;omega) q)))⟩,?_⟩;have A:aC pm aW ai p:=W.mono hn;have R:aC pm aW ai P:=by
  rw[E];exact aC.fill (aC.ia A λh=>⟨aP.ge 1 (r h),W.some d (M h).1⟩) (by omega) (by rw[ib (λh=>by have:=J h;omega)];exact al 8 (by decide)) (by rw[rb];have:=ay.next;have:=W.next;show s+8<p.next;rw[u];show s+8<ai.next+22;omega) _
 have d:p.next=s+22:=by rw[u];show ai.next+22=_;omega
 have p:P.next=s+22:=by rw[E,IV,rb];exact d
 have d:aC pm aW ai v:=by rw[B];exact aC.fill R (by omega) (an 14 (by decide)) (by omega) _
 have u:v.next=s+22:=by rw[B];exact p
 have p:aC pm aW ai A4:=by
  rw[F];exact aC.fill (aC.ia d λh=>⟨aP.ge 3 (t h),(aq _ (by have:=D h;omega) λh=>(av h).symm).trans (O h).1⟩) (by omega) (by rw[ib (λh=>by have:=D h;omega)];exact ao 15 (by decide)) (by rw[rb];omega) _
 have d:aC pm aW ai A5:=by rw[C];exact aC.put p (aP.ge 0 m) aD (by simp) _
 have u6:aC pm aW ai S:=by rw[G];exact aC.put d (aP.ge 0 m) aE (by simp) _
 obtain⟨l,ar⟩:∃l:Nat->Nat,l=λj=>if j=1 then s+8 else if j=3 then s+15 else aj j:=⟨_,rfl⟩
 have aK:l 0=aj 0:=by rw[ar];rfl
 have b1:l 1=s+8:=by rw[ar];rfl
 have ad:l 3=s+15:=by rw[ar];rfl
 have p:∀b,b<s->b≠aj 0->(0<k->b≠aj 1)->(0<k->b≠aj 3)->S.get b=ai.get b:=λb g d N u=>by
  rw[G,a6 d,C,a6 d];exact aB b g N u
 have d:S.get (s+8)=some (.cells (a++[fm,dB,cj]) (.n 3)):=by
  rw[G,a6 (by omega),C,a6 (by omega),F,a6 (by omega),ib (λh=>by have:=D h;omega),B,a6 (by omega),E];exact bO
 have a7:S.get (s+15)=some (.cells (f++[.int .i64 (k:Int)]) (.n 1)):=by
  rw[G,a6 (by omega),C,a6 (by omega),F];exact bO
 have s:a.length=k*3:=by
  by_cases e:k=0
  ·rw[aw e,e];rfl
  ·exact(M (by omega)).2.1
 have a_:f.length=k:=by
  by_cases e:k=0
  ·rw[ax e,e];rfl
  ·exact(O (by omega)).2.1
 refine aM _ S l u6 (λb g _=>p b (by omega) (g 0 m) (λh=>g 1 (r h)) λh=>g 3 (t h)) aK ⟨?_,λ_=>?_,λh=>absurd h (Nat.lt_irrefl 0),λ_=>?_,λh=>absurd h (Nat.lt_irrefl 0),λi I=>absurd I (gS _),λi j I n e=>?_,λi I=>?_⟩ (by simp[l1,l3,aI,aJ,aL])
 ·rw[aK,b1,ad,G,bO];rfl
 ·rw[b1];refine⟨_,d,by simp[s];omega,λx q=>?_⟩;by_cases e:x=k
  ·subst e;refine⟨fm,dB,cj,?_,?_,?_,hv.k u6⟩
   ·rw[iq (by omega),show x*3-a.length=0 by omega];rfl
   ·rw[iq (by omega),show x*3+1-a.length=1 by omega];rfl
   ·rw[iq (by omega),show x*3+2-a.length=2 by omega];rfl
  ·obtain⟨U,V,c,Y,a,Z,b⟩:=(M (by omega)).2.2 x (by omega);exact⟨U,V,c,by rw[hY (by omega)];exact Y,by rw[hY (by omega)];exact a,by rw[hY (by omega)];exact Z,b.k u6⟩
 ·rw[ad];refine⟨_,a7,by simp[a_],λi I=>?_⟩;by_cases e:i=k
  ·subst e;rw[iq (by omega),show i-f.length=0 by omega];rfl
  ·rw[hY (by omega)];exact(O (by omega)).2.2 i (by omega)
 ·have b:∀j,Real (k+1) 0 (k+1) j->j=0∨j=1∨j=3:=λj n=>by unfold Real at n;omega
  rcases b i I with rfl | rfl | rfl<;>rcases b j n with rfl | rfl | rfl<;>simp only[aK,b1,ad]at e<;>omega
 ·have b:i=0∨i=1∨i=3:=by unfold Real at I;omega
  have:=aP.ge 0 m
  rcases b with rfl | rfl | rfl
  ·rw[aK];exact this
  ·rw[b1];omega
  ·rw[ad];omega
end
abbrev tyC:Nat:=T.acv
section
variable{aW:Nat}{aj:Nat->Nat}{lc bJ:Value}{aa:ar}
theorem uW{k:Nat}(av:k<aa.a.length):aa.j.ah k=fl (aa.ad k).low:=aL av
theorem uX{k:Nat}(av:k<aa.a.length):aa.j.up k=fl (aa.ad k).up:=aL av
theorem Tr{k:Nat}(av:k<aa.a.length):aa.Y.v k=tF (fl (aa.ad k).low) (fl (aa.ad k).up):=aL av
theorem VJ{c:a1}(h:h9 c=true):(c.low≠[]->isNum c.low=true)/\(c.up≠[]->isNum c.up=true):=by
 obtain⟨a,b⟩:=N8 c h;exact⟨λe=>a (by simpa using e),λe=>b (by simpa using e)⟩
theorem YN(r:fC X)(e:bl pm ai)(an:pm.ah<=aW)(J:aW<=ai.next)(M:aa.ok)(N:aa.I=true){k:Nat}(av:k<aa.a.length)(aP:hx aa.j aW ai aj lc bJ k 0 k aa.Y){aK:Nat}{x:Option Addr}{cap:Nat}(hc:hO ai (.slice x aa.a.length cap) aa.a){L:bn}(l1:aF 1 L=some (.pointer (some ⟨aK,0,none⟩)))(l3:aF 3 L=some (.pointer (some ⟨aj 0,0,none⟩)))
 (O:aF 18 L=some (.slice x aa.a.length cap)) (ao:aF 19 L=some (.int .i64 (aa.a.length:Int))) (P:aF 20 L=some (.int .i64 (k:Int))) {Q:cl}
 (au:∀aU ab t,aC pm aW ai ab->t 0=aj 0->hx aa.j aW ab t lc bJ (k+1) 0 (k+1) aa.Y->Sub [(20,.int .i64 (k:Int)),(19,.int .i64 (aa.a.length:Int)),(1,.pointer (some ⟨aK,0,none⟩)),(3,.pointer (some ⟨aj 0,0,none⟩)),(18,.slice x aa.a.length cap)] aU->Q .normal aU ab):
 wp X pm (.code (.seq (.bs [m 22 20,o 23 (.lV 5 (.t 18) (.t 20)),o 24 (.load true 5 (.t 23)),o 5 (.alloc tyC [(.string ⟨#[]⟩),(.string ⟨#[]⟩),(.string ⟨#[]⟩),(.string ⟨#[]⟩),(.bool false)]),m 4 22,⟨none,none,.store 5 (.t 5) (.t 24)⟩]) KY)) L ai [] Q:=by
 obtain⟨_,_,R,aw⟩:=hc.at;cases R;obtain⟨b',ax,_,_,_,rfl,e2,e3,e4,c,S,rfl⟩:=aw k av;have x:=cX S;have y:=ar.q7 S;have S:=uJ N x;obtain⟨ay,az⟩:=VJ S;obtain⟨_,_,_⟩:=M.cs c x;obtain⟨a,B⟩:∃a,a=(ai.new (.cells [.string ⟨#[]⟩,.string ⟨#[]⟩,.string ⟨#[]⟩,.string ⟨#[]⟩,.bool false] (.t tyC))).put ai.next (.cells [ak c.name,ak c.low,ak c.up,ak c.cost,.bool c.int] (.t tyC)):=⟨_,rfl⟩;have u:K pm ai a:=by rw[B];exact gh e _ _
 have T:a.get ai.next=some (.cells [ak c.name,ak c.low,ak c.up,ak c.cost,.bool c.int] (.t tyC)):=by rw[B];exact bO
 have d:=u.q;have x:=d.lt T;have x:pm.may ai.next=true:=e.may (bc _);simp[O,P,av,e2,e3,e4,e.pick,e.make,x,ptr,bA,a1.cells,<-B,-xW];refine cx.of d.ah rfl ?_;obtain⟨s,U⟩:∃s,s=a.next:=⟨_,rfl⟩;have v:=d.none;have x:=d.O;rw[<-U]at v x;simp[b8,<-U,v,x,T,Perm.make,Perm.pick,-xW];obtain⟨A,i⟩:∃A,A=(a.up 9).put (s+4) (.cells [.pointer none,.pointer none,.pointer none] (.t tyX)):=⟨_,rfl⟩;have C:K pm a A:=by rw[i];exact aC.fill ((K.refl d).up 9) (by omega) (v 4) (by show s+4<a.next+9;omega) _
 have aA:A.get (s+4)=some (.cells [.pointer none,.pointer none,.pointer none] (.t tyX)):=by rw[i];exact bO
 have x:∀j,j≠4->A.get (s+j)=none:=λj f=>by rw[i,a6 (by omega)];exact v j
 have v:A.next=s+9:=by rw[i];show a.next+9=_;omega
 have v:(a.up 9).put (s+4) (.cells [.pointer none,.pointer none,.pointer none] (.t tyX))=A:=i.symm;rw[v];have D:∀{i:ae},K pm A i->∀j,j≠4->j<9->i.get (s+j)=none:=λk j f _=>(k.get _ (by omega)).trans (x j f);have i:=x 5 (by decide);refine cY C.q (aq:=[ak c.low]) i rfl (λaB E=>xY r E ay) ?_;rintro _ _ F V;have i:=D F 6 (by decide) (by decide);simp[-xW];refine cY F.q (aq:=[ak c.up]) i rfl (λaB E=>xY r E az) ?_;rintro _ W c Y;have l:=K.trans F c;have y7:=D l 7 (by decide) (by decide);have y8:=D l 8 (by decide) (by decide);have aD:=V.up c;obtain⟨g,rfl⟩:=V.ptr;obtain⟨h,rfl⟩:=Y.ptr;have Z:=l.some C.q aA;have c:=λo=>ej (ok:=pm.ok) (o:=o) (b:=s+4) (a8 d.ah (show a.next<=s+4 by omega));have i:ai.next<s:=by omega
 simp[y7,y8,Z,c,ptr,bA,b3,bZ,i,gd (show s+4≠ai.next by omega),fT,cU,l0,-xW];obtain⟨n,G⟩:∃n,n=W.put (s+4) (.cells [.pointer g,.pointer h,.pointer none] (.t tyX)):=⟨_,rfl⟩;have c:aC pm a.next W n:=by rw[G];exact aC.put (aC.refl l.q |>.mono (bc _)) (by omega) Z (by simp) _
 have g5:=c.q;have ad:n.get (s+4)=some (.cells [.pointer g,.pointer h,.pointer none] (.t tyX)):=by rw[G];exact bO
 have aE:K pm a n:=aC.trans (C.trans l) c;rw[<-G];have af:=aD.up c;have ag:=Y.up c;simp[ad,bB,bA,-K3,-AK];refine al.of (aq:=[.agg #[.pointer g,.pointer h,.pointer none]]) (abq r g5 af ag rfl) ?_;rintro _ H6 ⟨p,hr⟩;have g6:=p.q;have ah:=p.some g5 ad;obtain⟨H,rfl,_⟩:=id hr;have c:=K.trans aE p;have aG:=K.trans u c;have aH:=ej (ok:=pm.ok) (o:=pm.num) (b:=s+4) (a8 d.ah (show a.next<=s+4 by omega));obtain⟨q,I⟩:∃q,q=H6.put (s+4) (.cells [.pointer g,.pointer h,.pointer (some ⟨H,0,none⟩)] (.t tyX)):=⟨_,rfl⟩;have a:aC pm ai.next H6 q:=by rw[I];exact aC.put (.refl g6) (by have:=u.next;omega) ah (by simp) _
 have w:K pm ai q:=aC.trans aG a;have c:q.get (s+4)=some (.cells [.pointer g,.pointer h,.pointer (some ⟨H,0,none⟩)] (.t tyX)):=by rw[I];exact bO
 simp[ah,aH,<-I,-AK];have d:=aP.k e w;have i:=λj f=>aP.lt e (j:=j) f;have e:=u.next;refine YM r w.q an (a8 J w.next) M N av d (aK:=aK) (eu:=s+4) (z:=.t tyX) (fm:=.pointer g) (dB:=.pointer h) (cj:=.pointer (some ⟨H,0,none⟩)) (JP:=.slice (some ⟨b',ax,none⟩) aa.a.length cap) (by omega) (λj f R=>by have:=i j f;omega) c (by simp) ⟨by rw[uW av,y];exact(af.up p).up a,by rw[uX av,y];exact(ag.up p).up a,by rw[Tr av,y];exact hr.up a⟩ rfl (by simp[l1]) (by simp[l3]) (by simp) (by simp) (by simp[O]) (by simp[ao]) (by simp[P]) λaU ab t u _ a c d=>?_;exact au aU ab t ((w.mono J).trans u) a c d
end
section
variable{aW:Nat}{aj:Nat->Nat}{lc bJ:Value}{aa:ar}{iD:Option Addr}{iE:Nat}
def pM(aj:Nat->Nat)(s i c4:Nat)(j:Nat):Nat:=if j=1 then s+16 else if j=2 then s+27 else if j=4 then s+9 else if j=5+i then c4 else aj j
theorem aaQ(v:bl pm ai){i d s:Nat}(P:d=aa.a.length+i)(r:s=ai.next)(r:aW<=ai.next)(aP:hx aa.j aW ai aj (.slice iD aa.a.length iE) bJ d i aa.a.length aa.Y){eu c4:Nat}{fm dB cj:Value}(r:aW<=c4)(w:∀j,Real d i aa.a.length j->aj j≠eu/\aj j≠c4)(Q:mj ai aa.j aa.Y.v (aa.a.length+i) fm dB cj)(K:dD ai c4 aa.a.length aa.a.length (aa.Y.M i))
 {k n o:List Value} (R:0<d->ai.get (aj 1)=some (.cells k (.n 3))/\k.length=d*3/\∀x,x<d->∃p q c,k[x*3]? = some p/\k[x*3+1]? = some q/\k[x*3+2]? = some c/\mj ai aa.j aa.Y.v x p q c) (r:d=0->k=[]) (r:0<i->ai.get (aj 2)=some (.cells n (.n 1))/\n.length=i/\∀j,j<i->n[j]? = some (.int .i64 (aa.Y.rows j:Int))) (r:i=0->n=[])
 (S:0<i->ai.get (aj 4)=some (.cells o (.n 1))/\o.length=i/\∀j,j<i->o[j]? = some (.slice (some ⟨aj (5+j),0,none⟩) aa.a.length aa.a.length)) (r:i=0->o=[]) {r:ae} (B:aC pm aW ai r)
 (Z:r.get (aj 0)=some (.cells [.slice iD aa.a.length iE,bJ,aZ (s+16) (d+1),aZ (s+27) (i+1),aZ (aj 3) aa.a.length,aZ (s+9) (i+1)] (.t tyT))) (T:r.get (s+9)=some (.cells (o++[.slice (some ⟨c4,0,none⟩) aa.a.length aa.a.length]) (.n 1))) (U:r.get (s+16)=some (.cells (k++[fm,dB,cj]) (.n 3))) (V:r.get (s+27)=some (.cells (n++[.int .i64 ((aa.a.length:Int)+(i:Int))]) (.n 1)))
 (D:∀b,b<s->b≠aj 0->(0<i->b≠aj 4)->(0<d->b≠aj 1)->(0<i->b≠aj 2)->r.get b=ai.get b):pM aj s i c4 0=aj 0/\hx aa.j aW r (pM aj s i c4) (.slice iD aa.a.length iE) bJ (d+1) (i+1) aa.a.length aa.Y:=by
 have A:Real d i aa.a.length 0:=.inl rfl;have E:0<d->Real d i aa.a.length 1:=λh=>.inr (.inl ⟨rfl,h⟩);have F:0<i->Real d i aa.a.length 2:=λh=>.inr (.inr (.inl ⟨.inl rfl,h⟩));have G:0<i->Real d i aa.a.length 4:=λh=>.inr (.inr (.inl ⟨.inr rfl,h⟩));have r:aj 0<s:=by have:=aP.lt v A;omega
 have r:=aP.ge 0 A;have g:0<aa.a.length->Real d i aa.a.length 3:=λh=>.inr (.inr (.inr (.inl ⟨rfl,h⟩)));have H:∀j,j<i->Real d i aa.a.length (5+j):=λj h=>.inr (.inr (.inr (.inr ⟨by omega,by omega⟩)));have W:c4<s:=by
  obtain⟨_,e,_⟩:=K;have:=v.lt e;omega
 have l:∀a b,Real d i aa.a.length a->Real d i aa.a.length b->a≠b->aj a≠aj b:=λa b t I r e=>r (aP.inj a b t I e);obtain⟨f,m⟩:∃f:Nat->Nat,f=pM aj s i c4:=⟨_,rfl⟩;rw[<-m];have r:f 0=aj 0:=by rw[m,pM];simp;intro h;omega
 have L:f 1=s+16:=by rw[m,pM];simp
 have M:f 2=s+27:=by rw[m,pM];simp
 have J:f 3=aj 3:=by rw[m,pM];simp;intro h;omega
 have N:f 4=s+9:=by rw[m,pM];simp
 have C:∀j,j<i->f (5+j)=aj (5+j):=λj u=>by
  rw[m,pM];grind
 have O:f (5+i)=c4:=by
  rw[m,pM];simp only[show ¬5+i=1 by omega,show ¬5+i=2 by omega,show ¬5+i=4 by omega,if_false,if_true]
 have m:k.length=d*3:=by
  by_cases e:d=0
  ·grind
  ·grind
 have X:n.length=i:=by
  by_cases e:i=0
  ·grind
  ·grind
 have Y:o.length=i:=by
  by_cases e:i=0
  ·grind
  ·grind
 refine⟨r,?_,λ_=>?_,λ_=>?_,λz=>?_,λ_=>?_,λj u=>?_,λa b t I e=>?_,λa t=>?_⟩
 ·grind
 ·rw[L];refine⟨_,U,by grind,λx _=>?_⟩;by_cases e:x=d
  ·subst e;refine⟨fm,dB,cj,?_,?_,?_,?_⟩
   ·grind
   ·simp_all
   ·simp_all
   ·rw[P];exact Q.k B
  ·obtain⟨p,q,c,_,_,_,b⟩:=(R (by omega)).2.2 x (by omega);exact⟨p,q,c,by grind,by grind,by grind,b.k B⟩
 ·rw[M];refine⟨_,V,by simp[X],λj u=>?_⟩;by_cases e:j=i
  ·subst e;rw[iq (by omega),show j-n.length=0 by omega];show some (Value.int .i64 ((aa.a.length:Int)+(j:Int)))=some (.int .i64 ((aa.a.length+j:Nat):Int));simp
  grind
 ·rw[J];refine(aP.c z).ext λy e=>(D _ (by have:=aP.lt v (g z);omega) (l 3 0 (g z) A (by decide)) (λh=>l 3 4 (g z) (G h) (by decide)) (λh=>l 3 1 (g z) (E h) (by decide)) λh=>l 3 2 (g z) (F h) (by decide)).trans e
 ·rw[N];refine⟨_,T,by simp[Y],λj u=>?_⟩;by_cases e:j=i
  ·subst e;rw[iq (by omega),show j-o.length=0 by omega,O];rfl
  ·rw[hY (by omega),C j (by omega)];exact(S (by omega)).2.2 j (by omega)
 ·by_cases e:j=i
  ·subst e;rw[O];exact K.ext B λy e=>(D c4 W (w 0 A).2.symm (λh=>(w 4 (G h)).2.symm) (λh=>(w 1 (E h)).2.symm) λh=>(w 2 (F h)).2.symm).trans e
  ·have u:j<i:=by omega
   rw[C j u];have b:=H j u;exact(aP.row j u).ext B λy e=>(D _ (by have:=aP.lt v b;omega) (l _ _ b A (by omega)) (λh=>l _ _ b (G h) (by omega)) (λh=>l _ _ b (E h) (by omega)) λh=>l _ _ b (F h) (by omega)).trans e
 ·have c:∀a,Real (d+1) (i+1) aa.a.length a->(a=1/\f a=s+16)∨(a=2/\f a=s+27)∨(a=4/\f a=s+9)∨(a=5+i/\f a=c4)∨(Real d i aa.a.length a/\f a=aj a/\aj a<s/\aj a≠c4/\a≠1/\a≠2/\a≠4/\a≠5+i):=by
   intro a t
   rcases t with rfl | ⟨rfl,_⟩ | ⟨rfl | rfl,_⟩ | ⟨rfl,h⟩ | ⟨_,_⟩
   ·grind
   ·grind
   ·grind
   ·grind
   ·exact .inr (.inr (.inr (.inr ⟨g h,J,by have:=aP.lt v (g h);omega,(w 3 (g h)).2,by omega,by omega,by omega,by omega⟩)))
   ·obtain⟨j,rfl⟩:∃j,a=5+j:=⟨a-5,by omega⟩;by_cases e:j=i
    ·grind
    ·have b:=H j (by omega);exact .inr (.inr (.inr (.inr ⟨b,C j (by omega),by have:=aP.lt v b;omega,(w _ b).2,by omega,by omega,by omega,by omega⟩)))
  rcases c a t with⟨rfl,x⟩ | ⟨rfl,x⟩ | ⟨rfl,x⟩ | ⟨rfl,x⟩ | ⟨aco,x,ad2,ad3,_⟩<;>rcases c b I with⟨rfl,y⟩ | ⟨rfl,y⟩ | ⟨rfl,y⟩ | ⟨rfl,y⟩ | ⟨acB,y,ad4,ad5,_⟩<;>first | rfl | grind
 ·rcases t with rfl | ⟨rfl,_⟩ | ⟨rfl | rfl,_⟩ | ⟨rfl,h⟩ | ⟨_,_⟩
  ·grind
  ·rw[L];omega
  ·rw[M];omega
  ·rw[N];omega
  ·rw[J];exact aP.ge 3 (g h)
  ·obtain⟨j,rfl⟩:∃j,a=5+j:=⟨a-5,by omega⟩;by_cases e:j=i
   ·grind
   ·rw[C j (by omega)];exact aP.ge _ (H j (by omega))
theorem YP(d:bl pm ai)(bg:pm.ah<=aW)(hn:aW<=ai.next)(ho:aa.ok){i:Nat}(hi:i<aa.rows.length)(aP:hx aa.j aW ai aj (.slice iD aa.a.length iE) bJ (aa.a.length+i) i aa.a.length aa.Y){aK eu c4:Nat}{z zb:cM}{fm dB cj:Value}(aM:aW<=eu)(bh:aW<=c4)(_:eu≠c4)(ad:∀j,Real (aa.a.length+i) i aa.a.length j->aj j≠eu/\aj j≠c4)
 (o:ai.get eu=some (.cells [fm,dB,cj] z)) (bj:ai.get aK=some (.cells [.slice iD aa.a.length iE,bJ] zb)) (aM:aK<aW) (hv:mj ai aa.j aa.Y.v (aa.a.length+i) fm dB cj) (bk:[fm,dB,cj].all dd=true) (bl:dD ai c4 aa.a.length aa.a.length (aa.Y.M i)) {L:bn} (l1:aF 1 L=some (.pointer (some ⟨aK,0,none⟩))) (l3:aF 3 L=some (.pointer (some ⟨aj 0,0,none⟩))) (l7:aF 7 L=some (.int .i64 (i:Int)))
 (l9:aF 9 L=some (.pointer (some ⟨eu,0,none⟩))) (aJ:aF 10 L=some (.slice (some ⟨c4,0,none⟩) aa.a.length aa.a.length)) {n7:Value} (bm:aF 57 L=some n7) (bo:aF 58 L=some (.int .i64 (aa.rows.length:Int))) (bp:aF 59 L=some (.int .i64 (i:Int))) {Q:cl}
 (aL:∀aU ab aM,aC pm aW ai ab->aM 0=aj 0->hx aa.j aW ab aM (.slice iD aa.a.length iE) bJ (aa.a.length+(i+1)) (i+1) aa.a.length aa.Y->Sub [(59,.int .i64 (i:Int)),(58,.int .i64 (aa.rows.length:Int)),(1,.pointer (some ⟨aK,0,none⟩)),(3,.pointer (some ⟨aj 0,0,none⟩)),(57,n7)] aU->Q .normal aU ab):
 wp X pm (.code xV) L ai [] Q:=by
 have aM:=ho.c;have aM:=ho.r;obtain⟨a,aN⟩:∃a,a=aa.a.length+i:=⟨_,rfl⟩;rw[<-aN]at aP ad;obtain⟨s,hs⟩:∃s,s=ai.next:=⟨_,rfl⟩;have ae:=d.none;have aO:=d.O;rw[<-hs]at ae aO;have af:=aP.t;have R:Real a i aa.a.length 0:=.inl rfl;have S:0<a->Real a i aa.a.length 1:=λh=>.inr (.inl ⟨rfl,h⟩);have T:0<i->Real a i aa.a.length 2:=λh=>.inr (.inr (.inl ⟨.inl rfl,h⟩));have t:0<i->Real a i aa.a.length 4:=λh=>.inr (.inr (.inl ⟨.inr rfl,h⟩));have ag:aj 0<s:=by have:=aP.lt d R;omega
 have u:=λh=>aP.lt d (S h);have I:=λh=>aP.lt d (T h);have v:=λh=>aP.lt d (t h);have aQ:eu<s:=by have:=d.lt o;omega
 have aR:aK<s:=by omega
 have ax:0<a->aj 0≠aj 1:=λh e=>absurd (aP.inj 0 1 R (S h) e) (by decide);have bq:0<i->aj 0≠aj 2:=λh e=>absurd (aP.inj 0 2 R (T h) e) (by decide);have ak:0<i->aj 0≠aj 4:=λh e=>absurd (aP.inj 0 4 R (t h) e) (by decide);have br:0<a->0<i->aj 1≠aj 4:=λh B e=>absurd (aP.inj 1 4 (S h) (t B) e) (by decide);have bs:0<a->0<i->aj 1≠aj 2:=λh B e=>absurd (aP.inj 1 2 (S h) (T B) e) (by decide);have bt:0<i->aj 2≠aj 4:=λh e=>absurd (aP.inj 2 4 (T h) (t h) e) (by decide);have al:=aP.ge 0 R;have an:=λh=>aP.ge 1 (S h);have aS:=λh=>aP.ge 2 (T h);have ao:=λh=>aP.ge 4 (t h);have aq:∀ar b,aW<=b->Perm.may ⟨pm.ah,pm.ok,ar⟩ b=true:=λar b h=>ej (a8 bg h);obtain⟨f,ay,aT⟩:∃f,(0<a->ai.get (aj 1)=some (.cells f (.n 3))/\f.length=a*3/\∀x,x<a->∃R S c,f[x*3]? = some R/\f[x*3+1]? = some S/\f[x*3+2]? = some c/\mj ai aa.j aa.Y.v x R S c)/\(a=0->f=[]):=by
  by_cases e:a=0
  ·exact⟨[],λh=>by omega,λ_=>rfl⟩
  ·obtain⟨ch,l⟩:=aP.v (by omega);exact⟨ch,λ_=>l,λh=>absurd h e⟩
 obtain⟨m,az,aV⟩:∃m,(0<i->ai.get (aj 2)=some (.cells m (.n 1))/\m.length=i/\∀j,j<i->m[j]? = some (.int .i64 (aa.Y.rows j:Int)))/\(i=0->m=[]):=by
  by_cases e:i=0
  ·exact⟨[],λh=>by omega,λ_=>rfl⟩
  ·obtain⟨ch,l⟩:=aP.r (by omega);exact⟨ch,λ_=>l,λh=>absurd h e⟩
 obtain⟨p,au,aX⟩:∃p,(0<i->ai.get (aj 4)=some (.cells p (.n 1))/\p.length=i/\∀j,j<i->p[j]? = some (.slice (some ⟨aj (5+j),0,none⟩) aa.a.length aa.a.length))/\(i=0->p=[]):=by
  by_cases e:i=0
  ·exact⟨[],λh=>by omega,λ_=>rfl⟩
  ·obtain⟨ch,l⟩:=aP.m (by omega);exact⟨ch,λ_=>l,λh=>absurd h e⟩
 obtain⟨g,av⟩:∃g:Value,g=.slice (some ⟨c4,0,none⟩) aa.a.length aa.a.length:=⟨_,rfl⟩;have bu:[g].all dd=true:=by rw[av];rfl
 simp;refine cx.of d.ah rfl ?_;have bw:K pm ai (ai.up 37):=(K.refl d).up 37;obtain⟨J,M⟩:∃A,A=(ai.up 37).put (s+8) (.cells [g] (.n 1)):=⟨_,rfl⟩;have aA:K pm ai J:=by rw[M];exact aC.fill bw (by omega) (by show ai.get _=none;exact ae 8) (by show s+8<ai.next+37;omega) _
 have bx:J.next=s+37:=by rw[M];show ai.next+37=_;omega
 have aB:∀j,j≠8->J.get (s+j)=none:=λj k=>by rw[M,a6 (by omega)];exact ae j
 have bz:J.get (s+8)=some (.cells [g] (.n 1)):=by rw[M];exact bO
 have e1:=vL (H:=J) (w:=1) (cR:=24) (c:=aj 4) (i:=i) (ah:=pm.ah) (fJ:=pm.ok) (b:=s+9) (ch:=p) (xs:=[g]) (λh=>⟨aA.some d (au h).1,by simpa using(au h).2.1,aq _ _ (ao h)⟩) aX bu (by decide) (by omega) (by decide);obtain⟨U,N⟩:∃A,A=(ia J (aj 4) i).put (s+9) (.cells (p++[g]) (.n 1)):=⟨_,rfl⟩;rw[<-N]at e1;have u2:aC pm aW ai U:=by
  rw[N];exact aC.fill (aC.ia (aA.mono hn) λh=>⟨ao h,aA.some d (au h).1⟩) (by omega) (by rw[ib (λh=>by have:=v h;omega)];exact aB 9 (by decide)) (by rw[rb];omega) _
 have bC:U.next=s+37:=by rw[N,IV,rb];exact bx
 have aD:∀j,9<j->U.get (s+j)=none:=λj k=>by rw[N,a6 (by omega),ib (λh=>by have:=v h;omega)];exact aB j (by omega)
 have aE:∀b,b<s->(0<i->b≠aj 4)->U.get b=ai.get b:=λb q V=>by
  rw[N,a6 (by omega),ib V,M,a6 (by omega)];rfl
 have bD:=(aE (aj 0) ag ak).trans af;have bE:=(aE eu aQ λh=>((ad 4 (t h)).1).symm).trans o;obtain⟨r,C⟩:∃A,A=U.put (s+15) (.cells [fm,dB,cj] (.n 3)):=⟨_,rfl⟩;have u3:aC pm aW ai r:=by rw[C];exact aC.fill u2 (by omega) (aD 15 (by decide)) (by omega) _
 have bF:r.next=s+37:=by rw[C];exact bC
 have aG:∀j,15<j->r.get (s+j)=none:=λj k=>by rw[C,a6 (by omega)];exact aD j (by omega)
 have bG:r.get (s+15)=some (.cells [fm,dB,cj] (.n 3)):=by rw[C];exact bO
 have aY:∀b,b<s->(0<i->b≠aj 4)->r.get b=ai.get b:=λb q V=>by rw[C,a6 (by omega)];exact aE b q V
 have a1:0<a->r.get (aj 1)=some (.cells f (.n 3)):=λh=>(aY _ (by have:=u h;omega) λB=>br h B).trans (ay h).1;have e3:=vL (H:=r) (w:=3) (cR:=24) (c:=aj 1) (i:=a) (ah:=pm.ah) (fJ:=pm.ok) (b:=s+16) (ch:=f) (xs:=[fm,dB,cj]) (λh=>⟨a1 h,(ay h).2.1,aq _ _ (an h)⟩) aT bk (by decide) (by omega) (by decide);obtain⟨W,D⟩:∃A,A=(ia r (aj 1) a).put (s+16) (.cells (f++[fm,dB,cj]) (.n 3)):=⟨_,rfl⟩;rw[<-D]at e3;have u4:aC pm aW ai W:=by
  rw[D];exact aC.fill (aC.ia u3 λh=>⟨an h,a1 h⟩) (by omega) (by rw[ib (λh=>by have:=u h;omega)];exact aG 16 (by decide)) (by rw[rb];omega) _
 have bH:W.next=s+37:=by rw[D,IV,rb];exact bF
 have aH:∀j,16<j->W.get (s+j)=none:=λj k=>by rw[D,a6 (by omega),ib (λh=>by have:=u h;omega)];exact aG j (by omega)
 have aw:∀b,b<s->(0<i->b≠aj 4)->(0<a->b≠aj 1)->W.get b=ai.get b:=λb q e V=>by
  rw[D,a6 (by omega),ib V];exact aY b q e
 have bI:=(aw (aj 0) ag ak ax).trans af;have bK:=(aw aK aR (λh=>by have:=ao h;omega) λh=>by have:=an h;omega).trans bj;obtain⟨E,n⟩:∃A,A=W.put (s+26) (.cells [.int .i64 ((aa.a.length:Int)+(i:Int))] (.n 1)):=⟨_,rfl⟩;have u5:aC pm aW ai E:=by rw[n];exact aC.fill u4 (by omega) (aH 26 (by decide)) (by omega) _
 have e:E.next=s+37:=by rw[n];exact bH
 have aI:∀j,26<j->E.get (s+j)=none:=λj k=>by rw[n,a6 (by omega)];exact aH j (by omega)
 have bL:E.get (s+26)=some (.cells [.int .i64 ((aa.a.length:Int)+(i:Int))] (.n 1)):=by rw[n];exact bO
 have a7:0<i->E.get (aj 2)=some (.cells m (.n 1)):=λh=>by
  have:=I h;rw[n,a6 (by omega)];exact(aw _ (by omega) bt λB=>(bs B h).symm).trans (az h).1
 have e5:=vL (H:=E) (w:=1) (cR:=8) (c:=aj 2) (i:=i) (ah:=pm.ah) (fJ:=pm.ok) (b:=s+27) (ch:=m) (xs:=[.int .i64 ((aa.a.length:Int)+(i:Int))]) (λh=>⟨a7 h,by simpa using(az h).2.1,aq _ _ (aS h)⟩) aV rfl (by decide) (by omega) (by decide);obtain⟨Y,F⟩:∃A,A=(ia E (aj 2) i).put (s+27) (.cells (m++[.int .i64 ((aa.a.length:Int)+(i:Int))]) (.n 1)):=⟨_,rfl⟩;rw[<-F]at e5;have u6:aC pm aW ai Y:=by
  rw[F];exact aC.fill (aC.ia u5 λh=>⟨aS h,a7 h⟩) (by omega) (by rw[ib (λh=>by have:=I h;omega)];exact aI 27 (by decide)) (by rw[rb];omega) _
 have a_:∀j,27<j->Y.get (s+j)=none:=λj k=>by rw[F,a6 (by omega),ib (λh=>by have:=I h;omega)];exact aI j (by omega)
 have ba:∀b,b<s->(0<i->b≠aj 4)->(0<a->b≠aj 1)->(0<i->b≠aj 2)->Y.get b=ai.get b:=λb q h4 l h2=>by
  rw[F,a6 (by omega),ib h2,n,a6 (by omega)];exact aw b q h4 l
 have bb:=(ba (aj 0) ag ak ax bq).trans af;obtain⟨e,_⟩:∃e,e=Value.slice iD aa.a.length iE:=⟨_,rfl⟩;obtain⟨A7,O⟩:∃A,A=Y.put (aj 0) (.cells [.slice iD aa.a.length iE,bJ,aZ (aj 1) a,aZ (aj 2) i,aZ (aj 3) aa.a.length,aZ (s+9) (i+1)] (.t tyT)):=⟨_,rfl⟩;have u7:aC pm aW ai A7:=by rw[O];exact aC.put u6 al bb (by simp) _
 have bc:∀j,27<j->A7.get (s+j)=none:=λj k=>by rw[O,a6 (by omega)];exact a_ j k
 have bd:A7.get (aj 0)=some (.cells [.slice iD aa.a.length iE,bJ,aZ (aj 1) a,aZ (aj 2) i,aZ (aj 3) aa.a.length,aZ (s+9) (i+1)] (.t tyT)):=by rw[O];exact bO
 obtain⟨A8,P⟩:∃A,A=A7.put (aj 0) (.cells [.slice iD aa.a.length iE,bJ,aZ (s+16) (a+1),aZ (aj 2) i,aZ (aj 3) aa.a.length,aZ (s+9) (i+1)] (.t tyT)):=⟨_,rfl⟩;have u8:aC pm aW ai A8:=by rw[P];exact aC.put u7 al bd (by simp) _
 have bM:∀j,27<j->A8.get (s+j)=none:=λj k=>by rw[P,a6 (by omega)];exact bc j k
 have bf:A8.get (aj 0)=some (.cells [.slice iD aa.a.length iE,bJ,aZ (s+16) (a+1),aZ (aj 2) i,aZ (aj 3) aa.a.length,aZ (s+9) (i+1)] (.t tyT)):=by rw[P];exact bO
 obtain⟨G,Z⟩:∃A,A=A8.put (aj 0) (.cells [.slice iD aa.a.length iE,bJ,aZ (s+16) (a+1),aZ (s+27) (i+1),aZ (aj 3) aa.a.length,aZ (s+9) (i+1)] (.t tyT)):=⟨_,rfl⟩;have u9:aC pm aW ai G:=by rw[Z];exact aC.put u8 al bf (by simp) _
 have bN:=λar=>aq ar _ al;have bP:∀b i,dd (aZ b i)=true:=λb i=>by unfold aZ;split<;>rfl
 have bQ:∀b i,(aZ b i).cells=#[aZ b i]:=λb i=>by unfold aZ;split<;>rfl
 have e:wr .i64 ((aa.a.length:Int)+(i:Int))=(aa.a.length:Int)+(i:Int):=cE;have r:g.cells=#[g]:=by rw[av];rfl
 rw[<-av]at aJ
 simp[b8,<-hs,ae,aO,l1,l3,l7,l9,aJ,af, bB,bA,Perm.make,Perm.pick,r,fill,<-M,aB,bz,e1,aD,bD,bE,<-C,aG,bG,e3,aH,bI,bK,e,<-n,aI,bL,e5,a_,bb,bN,bP,bQ,<-O,bc,bd,<-P,bM,bf,<-Z,b3,bZ, cU,ag,aQ,aR,
  gd (show s+8≠aj 0 by omega),gd (show s+8≠eu by omega),gd (show s+8≠aK by omega),gd (show s+15≠aj 0 by omega),gd (show s+15≠aK by omega),gd (show s+26≠aj 0 by omega),gd (show s+26≠eu by omega),
  vK (c:=aj 4) (i:=i) (b:=s+9) (x:=aj 0) (λh=>(ak h).symm),vK (c:=aj 4) (i:=i) (b:=s+9) (x:=eu) (λh=>(ad 4 (t h)).1),vK (c:=aj 4) (i:=i) (b:=s+9) (x:=aK) (λh=>by have:=ao h;omega),
  vK (c:=aj 1) (i:=a) (b:=s+16) (x:=aj 0) (λh=>(ax h).symm),vK (c:=aj 1) (i:=a) (b:=s+16) (x:=aK) (λh=>by have:=an h;omega),
  BY (c:=aj 4) (i:=i) (b:=s+9) (x:=s+15) (λh=>by have:=v h;omega) (by omega),BX (c:=aj 4) (i:=i) (y:=s+8) (x:=s+15) (λh=>by have:=v h;omega) (by omega),
  BY (c:=aj 4) (i:=i) (b:=s+9) (x:=s+26) (λh=>by have:=v h;omega) (by omega),BX (c:=aj 4) (i:=i) (y:=s+8) (x:=s+26) (λh=>by have:=v h;omega) (by omega),
  BY (c:=aj 1) (i:=a) (b:=s+16) (x:=s+26) (λh=>by have:=u h;omega) (by omega),BX (c:=aj 1) (i:=a) (y:=s+15) (x:=s+26) (λh=>by have:=u h;omega) (by omega)]
 refine⟨⟨λx o=>.inl (.inl (.inl (vJ (λh=>by have:=v h;omega) o))),λx o=>.inl (.inl (.inl (vJ (λh=>by have:=u h;omega) o))),λx o=>.inl (.inl (.inl (vJ (λh=>by have:=I h;omega) o)))⟩,?_⟩;have o:∀b,b<s->b≠aj 0->(0<i->b≠aj 4)->(0<a->b≠aj 1)->(0<i->b≠aj 2)->G.get b=ai.get b:=λb q e h4 l h2=>by
  rw[Z,a6 e,P,a6 e,O,a6 e];exact ba b q h4 l h2
 have e:∀j,s<=j->G.get j=Y.get j:=λj k=>by rw[Z,a6 (by omega),P,a6 (by omega),O,a6 (by omega)]
 have k:G.get (s+9)=some (.cells (p++[g]) (.n 1)):=by
  rw[e _ (by omega),F,a6 (by omega),ib (λh=>by have:=I h;omega),n,a6 (by omega),D,a6 (by omega),ib (λh=>by have:=u h;omega),C,a6 (by omega),N];exact bO
 have g:G.get (s+16)=some (.cells (f++[fm,dB,cj]) (.n 3)):=by
  rw[e _ (by omega),F,a6 (by omega),ib (λh=>by have:=I h;omega),n,a6 (by omega),D];exact bO
 have f:G.get (s+27)=some (.cells (m++[.int .i64 ((aa.a.length:Int)+(i:Int))]) (.n 1)):=by
  rw[e _ (by omega),F];exact bO
 have e:aa.a.length+(i+1)=a+1:=by omega
 rw[e]at aL;rw[av]at k;obtain⟨a,e⟩:=aaQ d aN hs hn aP bh ad hv bl ay aT az aV au aX u9 (by rw[Z,bO]) k g f o;exact aL _ G _ u9 a e (by simp[l1,l3,bm,bo,bp])
end
abbrev tyY:Nat:=T.acy
abbrev tyK:Nat:=T.acz
section
variable{aW:Nat}{aj:Nat->Nat}{lc bJ:Value}{aa:ar}{iD:Option Addr}{iE:Nat}
theorem TC(b:aa.ok){j:Nat}(c:j<aa.a.length):aV (aa.v0 j) 10000:=by
 obtain⟨d,e,_⟩:=b.cs (aa.ad j) (cX (ar.kc c));unfold ar.v0 tF fl;split
 ·rename_i _ a;split at a
  ·cases a
  ·cases a;exact hf d
 ·split
  ·exact qB
  ·exact hf e
theorem YL(M:fC X)(z:bl pm ai)(q:K pm ai H)(A:aa.ok)(hm:aa.I=true){i B:Nat}(_:i<aa.rows.length)(Z:aa.a.length<=B)(aP:hx aa.j aW ai aj lc bJ B i aa.a.length aa.Y){r:b9}{cj:Value}(hr:aa.rows[i]? = some r)(aA:kz ai cj r.G){Z eu c4:Nat}{z2:cM}{fm dB u:Value}(ad:ai.next<=eu)(ae:ai.next<=c4)(af:eu≠c4)
 (aB:H.get Z=some (.cells (r.cells cj) z2)) (hx:H.get eu=some (.cells [fm,dB,u] (.t tyY))) (hu:b4 H u 0) (aD:dD H c4 aa.a.length aa.a.length λ_=>0) {L:bn} {v1:Value} (l1:aF 1 L=some v1) (l3:aF 3 L=some (.pointer (some ⟨aj 0,0,none⟩))) (l7:aF 7 L=some (.int .i64 (i:Int)))
 (l8:aF 8 L=some (.pointer (some ⟨Z,0,none⟩))) (l9:aF 9 L=some (.pointer (some ⟨eu,0,none⟩))) (aE:aF 10 L=some (.slice (some ⟨c4,0,none⟩) aa.a.length aa.a.length)) {n7:Value} (aG:aF 57 L=some n7) (aH:aF 58 L=some (.int .i64 (aa.rows.length:Int))) (aI:aF 59 L=some (.int .i64 (i:Int))) {Q:cl}
 (aJ:∀aU ab Z,K pm ai ab->aC pm ai.next H ab->ab.get eu=some (.cells [fm,dB,Z] (.t tyY))->b4 ab Z (gM r.G aa.v0)->dD ab c4 aa.a.length aa.a.length (hs r.G)->Sub [(1,v1),(3,.pointer (some ⟨aj 0,0,none⟩)),(7,.int .i64 (i:Int)),(9,.pointer (some ⟨eu,0,none⟩)),(10,.slice (some ⟨c4,0,none⟩) aa.a.length aa.a.length),(57,n7),(58,.int .i64 (aa.rows.length:Int)),(59,.int .i64 (i:Int))] aU->wp X pm (.code xV) aU ab [] Q):
 wp X pm (.code AJ) L H [] Q:=by
 have aK:=A.c;have Z:=cX hr;have hB:=uK hm Z;have aM:=A.rs r Z;obtain⟨N,_,_,_⟩:=xx hB aM aK;have aN:=N.len;obtain⟨aO,aQ,rfl,aR⟩:=aA.at;simp[l8,aB,b9.cells,-KR,-xV]
 refine er (σ:=Value) r.G.length (λp _=>[(1,v1),(3,.pointer (some ⟨aj 0,0,none⟩)),(7,.int .i64 (i:Int)),(9,.pointer (some ⟨eu,0,none⟩)),(10,.slice (some ⟨c4,0,none⟩) aa.a.length aa.a.length),(57,n7),(58,.int .i64 (aa.rows.length:Int)),(59,.int .i64 (i:Int)),(95,.slice aO r.G.length aQ)])
  (λp u ab=>K pm ai ab/\aC pm ai.next H ab/\ab.get eu=some (.cells [fm,dB,u] (.t tyY))/\b4 ab u (gM (r.G.take p) aa.v0)/\dD ab c4 aa.a.length aa.a.length (hs (r.G.take p))) u (by simp[l1,l3,l7,l9,aE,aG,aH,aI]) ⟨q,aC.refl q.q,hx,by simpa [gM]using hu,by simpa [hs]using aD⟩ ?_ ?_
 ·rintro p u h hp ⟨C,uu,ab,aF,ag⟩;obtain⟨_,_,_,_,_,rfl,e2,e3,e4,c,e5,rfl⟩:=aR p hp;obtain⟨n,L,O,h4⟩:=N.all c (cX e5);obtain⟨j,hj⟩:∃j:Nat,c.ad=(j:Int):=⟨c.ad.toNat,by omega⟩;have o:j<aa.a.length:=by omega
  have ah:c.ad.toNat=j:=by omega
  have f:=C.q;have aS:=C.some z e2;obtain⟨i,P⟩:∃i,i=(h.new (.cells [.int .i64 0,.string ⟨#[]⟩] (.t tyK))).put h.next (.cells [.int .i64 c.ad,ak c.v] (.t tyK)):=⟨_,rfl⟩;have Q:K pm h i:=by rw[P];exact gh f _ _
  have R:i.get h.next=some (.cells [.int .i64 c.ad,ak c.v] (.t tyK)):=by rw[P];exact bO
  have d:=Q.q;have aT:=d.lt R;have aU:∀q,Perm.may ⟨pm.ah,pm.ok,q⟩ c4=true:=λq=>ej (a8 z.ah ae);have aW:∀q,Perm.may ⟨pm.ah,pm.ok,q⟩ eu=true:=λq=>ej (a8 z.ah ad);have al:=n;unfold dL.ok at al;have aX:c.v≠[]:=by rintro s;rw[s]at L;simp[isNum,za]at L
  obtain⟨S,d1,d2,d3⟩:=ag.k f Q;have aY:=d.lt d1;simp[hp,aS,e3,e4,f.pick,f.make,f.may (bc _),ptr,bA,dL.cells,<-P,-AL];refine cx.of d.ah rfl ?_;have kU:K pm i (i.up 8):=(K.refl d).up 8;simp[b8,d.none,d.O,R,hj,-AL];refine cY kU.q (aq:=[ak c.v]) (by simp[d.none]) rfl (λan v=>xY M v λ_=>L) ?_;rintro _ H3 i D;rw[fl,aw aX]at D;have x3:=i.res d;have w:=kU.trans i;have g3:=w.q;have ao:=w.some d d1;obtain⟨E,rfl,_⟩:=id D;have ar:j<S.length:=by omega
  simp[x3,ao,o,aU,ar,b3,bZ,aT,aY,fT,cU,l0,-AL];have q:=λy (F:y<aa.a.length)=>(d3 y F).imp λ_ i=>(⟨i.1,i.2.up w⟩:_/\_);obtain⟨l,T⟩:=dD.put (m:=ai.next) g3 ae ao d2 q o D (dy:=aa.a.length) (λy F=>.inr F);obtain⟨e,G⟩:∃e,e=H3.put c4 (.cells (S.set j (.pointer (some ⟨E,0,none⟩))) (.n 1)):=⟨_,rfl⟩;rw[<-G]at l T|-;have a:=l.q;have H:=Q.trans w;have U:K pm ai e:=aC.trans (K.trans C H) l;have I:e.get eu=some (.cells [fm,dB,u] (.t tyY)):=by rw[G,a6 af];exact H.some f ab
  have i:=f.lt ab;have au:e.get h.next=some (.cells [.int .i64 c.ad,ak c.v] (.t tyK)):=by
   have b:c4<h.next:=by
    obtain⟨_,s,_⟩:=ag;exact f.lt s
   rw[G,a6 (by omega)];exact w.some d R
  have aZ:b4 e u (gM (r.G.take p) aa.v0):=(aF.up H).up l;have d:=aP.k z U;have V:=d.t;rw[dA (b:=aj 1) (show 0<B by omega)]at V;obtain⟨aq,av,_,f⟩:=d.v (by omega);obtain⟨_,_,qv,_,_,w3,d⟩:=f j (by omega);have f:aa.Y.v j=aa.v0 j:=aL o;have W:=d.v;rw[f]at W;have f4:=D.up l;obtain⟨d,X,_,_⟩:=id T;have a1:d[j]? = some (.pointer (some ⟨E,0,none⟩)):=by
   have:e.get c4=some (.cells (S.set j (.pointer (some ⟨E,0,none⟩))) (.n 1)):=by rw[G];exact bO
   rw[X]at this;cases this;rw[tk ar]
  have y0:=a.lt I;have y1:=a.lt au;have y2:=a.lt X;have y3:=a.lt V;have y4:=a.lt av;simp[-KW];refine cx.of a.ah rfl ?_;have g:K pm e (e.up 20):=(K.refl a).up 20;simp[b8,a.none,a.O,I,au,hj,X,a1,o,V,av,w3,show j<B by omega];have dj:=λm=>kI (f4.up g) (W.up g) (g.some a I) m;have ax:=hf (k:=10000) al;have ay:=TC A o;refine cY g.q (aq:=[.pointer (some ⟨E,0,none⟩),qv]) (by simp[a.none]) rfl (λan v=>og M.toEL v (f4.up g).of (W.up g).of (ax.bo (by decide)) (ay.bo (by decide))) ?_;rintro d _ x f6;have e:=x.res a;simp;have a7:aV (gM (r.G.take p) aa.v0) 21000000:=by
   refine dY (GC (t:=10000) λb f=>?_) ?_
   ·obtain⟨n,_,O,h4⟩:=N.all b (tt f);exact⟨n,TC A (by omega)⟩
   ·have n:(r.G.take p).length<=1000:=a8 (List.take_sublist _ _).length_le aN;have O:(r.G.take p).length*(10000+10001)<=20001000:=a8 (gk n (bc _)) (by decide);exact a8 (zN O) (by decide)
  refine fG x.q (aq:=[u,d]) (by simp[e]) rfl (λan v=>n8 M.toEL v ((aZ.up g).up x).of f6.of (a7.bo (by decide)) ((jk ax ay).bo (by decide))) ?_;rintro _ H7 Y f7;have x7:=(K.trans x Y).res a;have J:=g.trans (x.trans Y);have az:=J.some a I;obtain⟨ub,rfl,_⟩:=id f7;simp[x7,az,aW,b3,bZ,y0,y1,y2,y3,y4, cU,dj];have d:aC pm ai.next H7 (H7.put eu (.cells [fm,dB,.pointer (some ⟨ub,0,none⟩)] (.t tyY))):=aC.put (.refl Y.q) ad az (by simp) _;have e:r.G.take (p+1)=r.G.take p++[c]:=by rw[List.take_add_one,e5];rfl
  refine⟨aC.trans (K.trans U J) d,(((uu.trans (H.mono C.next)).trans l).trans (J.mono U.next)).trans d,?_,?_⟩
  ·rw[e,Oy,ah];exact f7.up d
  ·have b:=(T.k a J).ext d λy s=>by rw[a6 (Ne.symm af)];exact s
   refine b.congr λy F=>?_;rw[e,hs,List.foldl_append];show kq (hs (r.G.take p)) c y=_;rw[kq,ah]
 ·rintro u _ ⟨c,d,e,a,b⟩;rw[xj]at a b;simp[-xV];exact aJ _ _ u c d e a b (by simp)
end
abbrev tyR:Nat:=T.acx
section
variable{aW:Nat}{aj:Nat->Nat}{lc bJ:Value}{aa:ar}{iD:Option Addr}{iE:Nat}
theorem w6{i:Nat}:aa.j.ah (aa.a.length+i)=if(aa.row i).kind=1 then none else fl (aa.row i).rhs:=by
 show(if aa.a.length+i<aa.a.length then _ else if(aa.row (aa.a.length+i-aa.a.length)).kind=1 then none else fl (aa.row (aa.a.length+i-aa.a.length)).rhs)=_;rw[aw (by omega),show aa.a.length+i-aa.a.length=i by omega]
theorem w7{i:Nat}:aa.j.up (aa.a.length+i)=if(aa.row i).kind=3 then none else fl (aa.row i).rhs:=by
 show(if aa.a.length+i<aa.a.length then _ else if(aa.row (aa.a.length+i-aa.a.length)).kind=3 then none else fl (aa.row (aa.a.length+i-aa.a.length)).rhs)=_;rw[aw (by omega),show aa.a.length+i-aa.a.length=i by omega]
theorem Ts{i:Nat}:aa.Y.v (aa.a.length+i)=gM (aa.row i).G aa.v0:=by
 show(if aa.a.length+i<aa.a.length then _ else gM (aa.row (aa.a.length+i-aa.a.length)).G aa.v0)=_;rw[aw (by omega),show aa.a.length+i-aa.a.length=i by omega]
theorem YQ(v:fC X)(b:bl pm ai)(c:K pm ai H)(I:pm.ah<=aW)(f:aW<=ai.next)(l:aa.ok)(J:aa.I=true){i:Nat}(d:i<aa.rows.length)(aP:hx aa.j aW ai aj (.slice iD aa.a.length iE) bJ (aa.a.length+i) i aa.a.length aa.Y){cj:Value}(M:kz ai cj (aa.row i).G){aK e eu:Nat}{N w:cM}{fm dB u:Value}(x:ai.next<=eu)
 (y:ai.get aK=some (.cells [.slice iD aa.a.length iE,bJ] N)) (O:aK<aW) (z:H.get e=some (.cells ((aa.row i).cells cj) w)) (A:H.get eu=some (.cells [fm,dB,u] (.t tyY))) (P:b4 H u 0) (B:fv H fm (aa.j.ah (aa.a.length+i))) (C:fv H dB (aa.j.up (aa.a.length+i)))
 {L:bn} (D:aF 1 L=some (.pointer (some ⟨aK,0,none⟩))) (R:aF 3 L=some (.pointer (some ⟨aj 0,0,none⟩))) (S:aF 7 L=some (.int .i64 (i:Int)))
 (T:aF 8 L=some (.pointer (some ⟨e,0,none⟩))) (U:aF 9 L=some (.pointer (some ⟨eu,0,none⟩))) {n7:Value} (V:aF 57 L=some n7) (W:aF 58 L=some (.int .i64 (aa.rows.length:Int))) (Y:aF 59 L=some (.int .i64 (i:Int))) {Q:cl}
 (Z:∀aU ab E,aC pm aW ai ab->E 0=aj 0->hx aa.j aW ab E (.slice iD aa.a.length iE) bJ (aa.a.length+(i+1)) (i+1) aa.a.length aa.Y->Sub [(59,.int .i64 (i:Int)),(58,.int .i64 (aa.rows.length:Int)),(1,.pointer (some ⟨aK,0,none⟩)),(3,.pointer (some ⟨aj 0,0,none⟩)),(57,n7)] aU->Q .normal aU ab):
 wp X pm (.code vm) L H [] Q:=by
 have aw:=l.c;have g:=c.q;have ad:=c.some b y;obtain⟨c4,o⟩:∃ae,ae=H.next:=⟨_,rfl⟩;obtain⟨h,p⟩:∃h,h=H.new (.cells (times [.pointer none] aa.a.length) (.n 1)):=⟨_,rfl⟩;have k:K pm H h:=by rw[p];exact K.new g _
 have d1:dD h c4 aa.a.length 0 λ_=>0:=⟨_,by rw[p,o];exact cc,At _ _,λi d=>absurd d (gS _)⟩;have q:ai.next<=c4:=by rw[o];exact c.next
 have af:pm.may c4=true:=g.may (by omega);have lx:=g.lt A;have ax:=g.lt z;have r:eu≠c4:=by omega
 have ag:e≠c4:=by omega
 simp[D,ad,nO (b7:=show aa.a.length<=1073741824 by omega) (cH:=show 8*aa.a.length<=17179869184 by omega) g.tock,<-p,<-o,-KO,-AJ]
 refine er (σ:=Unit) aa.a.length (λ_ _=>[(1,.pointer (some ⟨aK,0,none⟩)),(3,.pointer (some ⟨aj 0,0,none⟩)),(7,.int .i64 (i:Int)),(8,.pointer (some ⟨e,0,none⟩)),(9,.pointer (some ⟨eu,0,none⟩)),(10,.slice (some ⟨c4,0,none⟩) aa.a.length aa.a.length),(57,n7),(58,.int .i64 (aa.rows.length:Int)),(59,.int .i64 (i:Int))])
  (λa _ ab=>K pm ai ab/\ab.get e=some (.cells ((aa.row i).cells cj) w)/\ab.get eu=some (.cells [fm,dB,u] (.t tyY))/\aC pm ai.next H ab/\dD ab c4 aa.a.length a λ_=>0) () (by simp[D,R,S,T,U,V,W,Y]) ⟨c.trans k,k.some g z,k.some g A,k.mono c.next,d1⟩ ?_ ?_
 ·rintro s _ _ u ⟨t,K,L,Q,X⟩;have i:=t.q;simp[-KZ];refine al.of (aq:=[.int .i64 0]) (ml v.toEL i (n:=0) (by omega) (by omega)) ?_;rintro _ _ ⟨a,F⟩;obtain⟨ps,G,a2,a3⟩:=X.k i a;obtain⟨H,d4⟩:=dD.put (m:=ai.next) a.q q G a2 a3 u F (dy:=s+1) (λj hj=>by omega);obtain⟨_,rfl,_⟩:=id F;simp[G,u,af,show s<ps.length by omega];refine⟨aC.trans (t.trans a) H,?_,?_,(Q.trans (a.mono t.next)).trans H,d4.congr λj hj=>?_⟩
  ·rw[a6 ag];exact a.some i K
  ·rw[a6 r];exact a.some i L
  ·by_cases m:j=s<;>simp[m]
 ·rintro _ _ ⟨t,u,F,a,G⟩;simp[-AJ];refine YL v b t l J d (gj _ _) aP (ar.rowAt d) M x q r u F (P.up a) G (v1:=.pointer (some ⟨aK,0,none⟩)) (n7:=n7) (by simp) (by simp) (by simp) (by simp) (by simp) (by simp) (by simp) (by simp) (by simp) λaU ab _ dy m H n K s=>?_;simp only[yc]at s;obtain⟨L,Q,X,j9,aa,ah,ai,aj,_⟩:=s;have ak:=λj i=>aP.lt b (j:=j) i;refine YP dy.q I (a8 f dy.next) l d (aP.k b dy) (aK:=aK) (eu:=eu) (c4:=c4) (a8 f x) (a8 f q) r (λj i=>?_) H (dy.some b y) O ⟨?_,?_,?_⟩ ?_ K L Q X j9 aa ah ai aj λal bX an ao aq au av=>?_
  ·have:=ak j i;exact⟨by omega,by omega⟩
  ·exact(B.up a).up m
  ·exact(C.up a).up m
  ·rw[Ts];exact n
  ·obtain⟨_,rfl⟩:=B.ptr;obtain⟨_,rfl⟩:=C.ptr;obtain⟨_,rfl,_⟩:=n;rename_i p1 p2 _ _;cases p1<;>cases p2<;>rfl
  ·exact Z al bX an ((dy.mono f).trans ao) aq au av
end
section
variable{aW:Nat}{aj:Nat->Nat}{lc bJ:Value}{aa:ar}{iD:Option Addr}{iE:Nat}
theorem jn.G(h:jn ai bJ aa.rows){i:Nat}(e:i<aa.rows.length):∃a cap b off c d cj,bJ=.slice a aa.rows.length cap/\a=some ⟨b,off,none⟩/\ai.get b=some c/\rowOf c=some d/\bB d (off+i*5) 5=some ((aa.row i).cells cj)/\kz ai cj (aa.row i).G:=by
 obtain⟨a,cap,rfl,f⟩:=h.at;obtain⟨b,off,c,d,_,g,j,k,l,_,cj,m,rfl,n⟩:=f i e;have:=ar.Sr m;subst this;exact⟨a,cap,b,off,c,d,cj,rfl,g,j,k,l,n⟩
theorem YO(t:fC X)(q:bl pm ai)(az:pm.ah<=aW)(hn:aW<=ai.next)(M:aa.ok)(hm:aa.I=true){i:Nat}(u:i<aa.rows.length)(aP:hx aa.j aW ai aj (.slice iD aa.a.length iE) bJ (aa.a.length+i) i aa.a.length aa.Y)(hr:jn ai bJ aa.rows){aK:Nat}{zb:cM}
 (aA:ai.get aK=some (.cells [.slice iD aa.a.length iE,bJ] zb)) (aB:aK<aW)
 {L:bn} (g:aF 1 L=some (.pointer (some ⟨aK,0,none⟩))) (h:aF 3 L=some (.pointer (some ⟨aj 0,0,none⟩))) (c:aF 57 L=some bJ) (j:aF 58 L=some (.int .i64 (aa.rows.length:Int))) (e:aF 59 L=some (.int .i64 (i:Int))) {Q:cl}
 (aD:∀aU ab an,aC pm aW ai ab->an 0=aj 0->hx aa.j aW ab an (.slice iD aa.a.length iE) bJ (aa.a.length+(i+1)) (i+1) aa.a.length aa.Y->Sub [(59,.int .i64 (i:Int)),(58,.int .i64 (aa.rows.length:Int)),(1,.pointer (some ⟨aK,0,none⟩)),(3,.pointer (some ⟨aj 0,0,none⟩)),(57,bJ)] aU->Q .normal aU ab):
 wp X pm (.code (.seq (.bs [m 61 59,o 62 (.lV 5 (.t 57) (.t 59)),o 63 (.load true 5 (.t 62)),o 8 (.alloc tyR [(.string ⟨#[]⟩),(.int .i64 (.ofNat 0)),(.slice none 0 0),(.string ⟨#[]⟩),(.string ⟨#[]⟩)]),m 7 61,⟨none,none,.store 5 (.t 8) (.t 63)⟩]) KV)) L ai [] Q:=by
 have aE:=M.c;obtain⟨_,_,_,_,_,_,cj,N,rfl,e2,e3,O,P⟩:=jn.G hr u;have an:=cX (ar.rowAt u);have hB:=uK hm an;have R:=M.rs _ an;obtain⟨_,S,q3,q4⟩:=xx hB R aE;have aG:=R.1;obtain⟨r,T⟩:∃r,r=aa.row i:=⟨_,rfl⟩;have U:=w6 (aa:=aa) (i:=i);have V:=w7 (aa:=aa) (i:=i);rw[<-T]at hB R S q3 q4 aG O P U V;obtain⟨bs,aH,ao,_⟩:=P.at;obtain⟨d,W⟩:∃Y,Y=ai.next:=⟨_,rfl⟩;obtain⟨v,Z⟩:∃v,v=(ai.new (.cells [.string ⟨#[]⟩,.int .i64 0,.slice none 0 0,.string ⟨#[]⟩,.string ⟨#[]⟩] (.t tyR))).put d (.cells [ak r.name,.int .i64 r.kind,.slice bs r.G.length aH,ak r.rhs,ak r.tw] (.t tyR)):=⟨_,rfl⟩;have k1:K pm ai v:=by rw[Z,W];exact gh q _ _
 have au:v.get d=some (.cells (r.cells cj) (.t tyR)):=by rw[Z,ao];exact bO
 have g1:=k1.q;have v:∀x,(ai.new x).get d=some x:=λx=>by rw[W];exact cc
 have R:pm.may d=true:=q.may (by omega);rw[N]at c;rw[ao]at O;simp[c,e,u,e2,e3,O,q.pick,q.make,R,v,ptr,bA,b9.cells,<-Z,<-W,-K2,-KU];refine al.of (aq:=[.int .i64 0]) (ml t.toEL g1 (n:=0) (by omega) (by omega)) ?_;rintro _ w ⟨y,f0⟩;have z:=y.q;obtain⟨l,rfl,_⟩:=id f0;obtain⟨a,A⟩:∃Y,Y=w.next:=⟨_,rfl⟩;obtain⟨p,ad⟩:∃p,p=(w.new (.cells [.pointer none,.pointer none,.pointer none] (.t tyY))).put a (.cells [.pointer none,.pointer none,.pointer (some ⟨l,0,none⟩)] (.t tyY)):=⟨_,rfl⟩;have v:K pm w p:=by rw[ad,A];exact gh z _ _
 have B:=v.q;have av:p.get a=some (.cells [.pointer none,.pointer none,.pointer (some ⟨l,0,none⟩)] (.t tyY)):=by rw[ad];exact bO
 have O:=y.trans v;have af:=k1.trans O;have C:=O.some g1 au;have O:∀x,(w.new x).get a=some x:=λx=>by rw[A];exact cc
 have ag:pm.may a=true:=z.may (by omega);have ah:ai.next<=a:=by rw[A];exact(k1.trans y).next
 have ax:d≠a:=by
  have:=(y.next);have:=g1.lt au;omega
 simp[z.pick,z.make,ptr,O,<-A,ag,bA,<-ad,C,b9.cells,-vn,-KT]
 have ay:∀(b:ae) (s:Option Addr) (L:bn),K pm ai b->aC pm ai.next p b->b.get d=some (.cells (r.cells cj) (.t tyR))->b.get a=some (.cells [.pointer s,.pointer none,.pointer (some ⟨l,0,none⟩)] (.t tyY))->fv b (.pointer s) (aa.j.ah (aa.a.length+i))->
  aF 1 L=some (.pointer (some ⟨aK,0,none⟩))->aF 3 L=some (.pointer (some ⟨aj 0,0,none⟩))->aF 7 L=some (.int .i64 (i:Int))->aF 8 L=some (.pointer (some ⟨d,0,none⟩))->aF 9 L=some (.pointer (some ⟨a,0,none⟩))->aF 57 L=some bJ->aF 58 L=some (.int .i64 (aa.rows.length:Int))->aF 59 L=some (.int .i64 (i:Int))->wp X pm (.code vn) L b [] Q:=by
  intro b s L o x D w y g h E m n c j e;have F:=o.q;have z:=(f0.up v).up x;have ab:=λ(f:ae) (v:Option Addr) (L:bn) (k:K pm ai f) (x:aC pm ai.next b f) (A:f.get d=some (.cells (r.cells cj) (.t tyR))) (G:f.get a=some (.cells [.pointer s,.pointer v,.pointer (some ⟨l,0,none⟩)] (.t tyY))) (O:fv f (.pointer v) (aa.j.up (aa.a.length+i))) (g:aF 1 L=some (.pointer (some ⟨aK,0,none⟩))) (h:aF 3 L=some (.pointer (some ⟨aj 0,0,none⟩))) (E:aF 7 L=some (.int .i64 (i:Int))) (m:aF 8 L=some (.pointer (some ⟨d,0,none⟩))) (n:aF 9 L=some (.pointer (some ⟨a,0,none⟩))) (c:aF 57 L=some bJ) (j:aF 58 L=some (.int .i64 (aa.rows.length:Int))) (e:aF 59 L=some (.int .i64 (i:Int)))=>
   YQ t q k az hn M hm u aP (cj:=cj) (by rw[<-T];exact P) ah aA aB (by rw[<-T];exact A) G (by simpa using z.up x) (y.up x) O g h E m n c j e (Q:=Q) aD
  simp[m,D,b9.cells,-KS,-vm];by_cases H:r.kind=3
  ·have d:(r.kind==3)=true:=by simpa using H
   simp[d,-vm];refine ab b none _ o (aC.refl F) D w (by rw[V,aL H];rfl) (by simp[g]) (by simp[h]) (by simp[E]) (by simp[m]) (by simp[n]) (by simp[c]) (by simp[j]) (by simp[e])
  ·have d:(r.kind==3)=false:=by simpa using H
   simp[d,m,D,b9.cells,-vm,-K0];refine al.of (aq:=[ak r.rhs]) (xY t F λ_=>S) ?_;rintro _ f ⟨k,L⟩;have G:=k.some F w;obtain⟨Q,rfl⟩:=L.ptr;obtain⟨i,I⟩:∃i,i=f.put a (.cells [.pointer s,.pointer Q,.pointer (some ⟨l,0,none⟩)] (.t tyY)):=⟨_,rfl⟩;have d:aC pm ai.next f i:=by rw[I];exact aC.put (.refl k.q) ah G (by simp) _
   simp[n,G,ag,<-I,-vm];refine ab i Q _ (aC.trans (K.trans o k) d) ((k.mono o.next).trans d) (by rw[I,a6 ax];exact k.some F D) (by rw[I];exact bO) (by rw[V,aw H];exact L.up d) (by simp[g]) (by simp[h]) (by simp[E]) (by simp[m]) (by simp[n]) (by simp[c]) (by simp[j]) (by simp[e])
 by_cases J:r.kind=1
 ·have d:(r.kind==1)=true:=by simpa using J
  simp[d,-vn];refine ay p none _ af (aC.refl B) C av (by rw[U,aL J];rfl) (by simp[g]) (by simp[h]) (by simp) (by simp) (by simp) (by simp[c,N]) (by simp[j]) (by simp[e])
 ·have d:(r.kind==1)=false:=by simpa using J
  simp[d,C,b9.cells,-vn,-K1];refine al.of (aq:=[ak r.rhs]) (xY t B λ_=>S) ?_;rintro _ b ⟨f,m⟩;have n:=f.some B av;obtain⟨o,rfl⟩:=m.ptr;obtain⟨i,k⟩:∃i,i=b.put a (.cells [.pointer o,.pointer none,.pointer (some ⟨l,0,none⟩)] (.t tyY)):=⟨_,rfl⟩;have a:aC pm ai.next b i:=by rw[k];exact aC.put (.refl f.q) ah n (by simp) _
  simp[n,ag,<-k,-vn];refine ay i o _ (aC.trans (K.trans af f) a) ((f.mono af.next).trans a) (by rw[k,a6 ax];exact f.some B C) (by rw[k];exact bO) (by rw[U,aw J];exact m.up a) (by simp[g]) (by simp[h]) (by simp) (by simp) (by simp) (by simp[c,N]) (by simp[j]) (by simp[e])
end
section
variable{aW:Nat}{aj:Nat->Nat}{aa:ar}
theorem YR(o:fC X)(g:bl pm H)(l:aa.ok)(x:aa.I=true){p q:Value}(y:hO H p aa.a)(z:jn H q aa.rows):
 Call X pm F.sd [.agg #[p,q]] H λr ab=>K pm H ab/\∃aj,r=.pointer (some ⟨aj 0,0,none⟩)/\cT aa.j H.next ab aj p q aa.Y:=by
 refine Call.W o.sd rfl λ_ B=>?_;have p:=l.c;have p:=l.r;obtain⟨b,c,rfl,_⟩:=y.at;obtain⟨d,e,rfl,_⟩:=z.at;obtain⟨aK,s⟩:∃t,t=H.next:=⟨_,rfl⟩;obtain⟨a,m⟩:∃a,a=H.new (.cells [.slice b aa.a.length c,.slice d aa.rows.length e] (.t tyB)):=⟨_,rfl⟩;have n:K pm H a:=by rw[m];exact K.new g _
 have h:=n.q;have u:a.get aK=some (.cells [.slice b aa.a.length c,.slice d aa.rows.length e] (.t tyB)):=by rw[m,s];exact cc
 have p:a.next=aK+1:=by rw[m,s];rfl
 obtain⟨f,i⟩:∃t,t=a.next:=⟨_,rfl⟩;obtain⟨j,v⟩:∃j,j=a.new (.cells [.slice b aa.a.length c,.slice d aa.rows.length e,.slice none 0 0,.slice none 0 0,.slice none 0 0,.slice none 0 0] (.t tyT)):=⟨_,rfl⟩;have p:K pm a j:=by rw[v];exact K.new h _
 have q:j.get f=some (.cells [.slice b aa.a.length c,.slice d aa.rows.length e,.slice none 0 0,.slice none 0 0,.slice none 0 0,.slice none 0 0] (.t tyT)):=by rw[v,i];exact cc
 have t:=p.some h u;have C:=y.ext (n.ext g);have y:=z.ext (n.ext g);have A:pm.ah<=f:=by rw[i];exact h.ah
 have w:∀{ab:ae},K pm a ab->hO ab (.slice b aa.a.length c) aa.a/\jn ab (.slice d aa.rows.length e) aa.rows/\ab.get aK=some (.cells [.slice b aa.a.length c,.slice d aa.rows.length e] (.t tyB)):=λk=>⟨C.ext (k.ext h),y.ext (k.ext h),k.some h u⟩;simp[g.pick,g.make,ptr,<-s,<-m,u,bA,bB,setCells,  <-i,<-v,t,-KQ,-KX];have D:hx aa.j f j (λ_=>f) (.slice b aa.a.length c) (.slice d aa.rows.length e) 0 0 0 aa.Y:=by
  refine⟨q,λh=>absurd h (Nat.lt_irrefl 0),λh=>absurd h (Nat.lt_irrefl 0),λh=>absurd h (Nat.lt_irrefl 0),λh=>absurd h (Nat.lt_irrefl 0),λh g=>absurd g (gS _),λh _ g h _=>?_,λ_ _=>bc _⟩;unfold Real at g h;omega
 refine er (σ:=Unit) aa.a.length (λ_ _=>[(1,.pointer (some ⟨aK,0,none⟩)),(3,.pointer (some ⟨f,0,none⟩)),(18,.slice b aa.a.length c)])
  (λk _ ab=>K pm a ab/\∃aj,aj 0=f/\hx aa.j f ab aj (.slice b aa.a.length c) (.slice d aa.rows.length e) k 0 k aa.Y) () (by simp) ⟨p,_,rfl,D⟩ ?_ ?_
 ·rintro k _ _ j ⟨g,aj,h,k⟩;obtain⟨m,_,_⟩:=w g;refine YN o g.q A (by rw[i];exact g.next) l x j k (aK:=aK) m (by simp) (by simp[h]) (by simp) (by simp) (by simp) λ_ ab k u m p j=>?_;rw[h]at j;simp;refine⟨by simpa using j,aC.trans g (u.mono (by omega)),k,m.trans h,p⟩
 ·rintro _ _ ⟨j,aj,g,p⟩;obtain⟨q,k,h⟩:=w j;simp[h,-KP]
  refine er (σ:=Unit) aa.rows.length (λ_ _=>[(1,.pointer (some ⟨aK,0,none⟩)),(3,.pointer (some ⟨f,0,none⟩)),(57,.slice d aa.rows.length e)])
   (λm _ ab=>K pm a ab/\∃aj,aj 0=f/\hx aa.j f ab aj (.slice b aa.a.length c) (.slice d aa.rows.length e) (aa.a.length+m) m aa.a.length aa.Y) () (by simp) ⟨j,aj,g,p⟩ ?_ ?_
  ·rintro _ _ _ b ⟨a,aj,g,c⟩;obtain⟨q,k,h⟩:=w a;refine YO o a.q A (by rw[i];exact a.next) l x b c k h (by omega) (by simp) (by simp[g]) (by simp) (by simp) (by simp) λ_ ab c u d e b=>?_;rw[g]at b;simp;refine⟨by simpa using b,aC.trans a (u.mono (by omega)),c,d.trans g,e⟩
  ·rintro _ _ ⟨a,aj,g,b⟩;simp;obtain⟨c,d,e⟩:=hx.full (P:=aa.j) b a.q (by rw[i];exact a.next);refine B _ _ _ ?_;simp;exact⟨n.trans a,c,(d.trans g).symm,e.mono (by omega)⟩
end
abbrev tyA:Nat:=T.acq
abbrev tySB:Nat:=T.acp
structure cW where
 st:Int
 val:List UInt8
 x:List (List UInt8)
 d:List (List UInt8)
 r:List (List UInt8)
def qU(H:ae)(v:Value)(a:cW):Prop:=∃b c d,v=.agg #[.int .i64 a.st,ak a.val,b,c,d]/\fp H b a.x/\fp H c a.d/\fp H d a.r
theorem qU.ext{v:Value}{a:cW}(h:qU H v a)(e:Ext H ab):qU ab v a:=by
 obtain⟨a,b,c,rfl,d,f,g⟩:=h;exact⟨a,b,c,rfl,d.ext e,f.ext e,g.ext e⟩
theorem fp.nil:fp H (.slice none 0 0) []:=⟨none,0,rfl,λ_ a=>absurd a (gS _)⟩
def h7(H:ae)(aW:Nat)(v:Value)(l:List (List UInt8)):Prop:=fp H v l/\∀b a m c,v=.slice (some ⟨b,a,none⟩) m c->aW<=b/\∃y,H.get b=some y
theorem h7.nil{aW:Nat}:h7 H aW (.slice none 0 0) []:=⟨.nil,λ_ _ _ _ h=>(by cases h)⟩
theorem h7.ext{aW:Nat}{v:Value}{l:List (List UInt8)}(h:h7 H aW v l)(e:Ext H ab):h7 ab aW v l:=⟨h.1.ext e,λb o m c q=>⟨(h.2 b o m c q).1,(h.2 b o m c q).2.imp λ_ a=>e _ _ a⟩⟩
theorem h7.mono{aW a:Nat}{v:Value}{l:List (List UInt8)}(h:h7 H aW v l)(e:a<=aW):h7 H a v l:=⟨h.1,λb o m c q=>⟨a8 e (h.2 b o m c q).1,(h.2 b o m c q).2⟩⟩
theorem h7.put{aW c:Nat}{v:Value}{l:List (List UInt8)}(h:h7 H aW v l)(a:c<aW)(x:bz):h7 (H.put c x) aW v l:=by
 refine⟨?_,λb o m a q=>⟨(h.2 b o m a q).1,(h.2 b o m a q).2.imp λy d=>by rw[a6 (by have:=(h.2 b o m a q).1;omega)];exact d⟩⟩;obtain⟨e,f,rfl,g⟩:=h.1.ex;refine⟨e,f,rfl,λi j=>?_⟩;obtain⟨b,c,y,k,u,rfl,l,n⟩:=g i j;have:=(h.2 b c _ _ rfl).1;exact⟨b,c,y,k,u,rfl,by rw[a6 (by omega)];exact l,n⟩
theorem eK.ho{c k aW:Nat}{f:Nat->List UInt8}(h:eK H c k f)(a:aW<=c):h7 H aW (.slice (some ⟨c,0,none⟩) k k) ((List.range k).map f):=
 ⟨h.strs,λ_ _ _ _ e=>by
  cases e;obtain⟨_,b,_⟩:=h;exact⟨a,_,b⟩⟩
def ky(H:ae)(aW:Nat)(v:Value)(a:cW):Prop:=∃b c d,v=.agg #[.int .i64 a.st,ak a.val,b,c,d]/\h7 H aW b a.x/\h7 H aW c a.d/\h7 H aW d a.r
theorem ky.E5{aW:Nat}{v:Value}{a:cW}(h:ky H aW v a):qU H v a:=by
 obtain⟨a,b,c,rfl,d,e,f⟩:=h;exact⟨a,b,c,rfl,d.1,e.1,f.1⟩
theorem ky.ext{aW:Nat}{v:Value}{a:cW}(h:ky H aW v a)(e:Ext H ab):ky ab aW v a:=by
 obtain⟨a,b,c,rfl,d,f,g⟩:=h;exact⟨a,b,c,rfl,d.ext e,f.ext e,g.ext e⟩
theorem ky.mono{aW b:Nat}{v:Value}{a:cW}(h:ky H aW v a)(e:b<=aW):ky H b v a:=by
 obtain⟨a,c,d,rfl,f,g,i⟩:=h;exact⟨a,c,d,rfl,f.mono e,g.mono e,i.mono e⟩
theorem ky.put{aW c:Nat}{v:Value}{a:cW}(h:ky H aW v a)(b:c<aW)(x:bz):ky (H.put c x) aW v a:=by
 obtain⟨a,c,d,rfl,e,f,g⟩:=h;exact⟨a,c,d,rfl,e.put b x,f.put b x,g.put b x⟩
def il(aa:ar)(T:bu):List (List UInt8):=(List.range aa.j.n).map λj=>bk (T.v j)
def y0(aa:ar)(T:bu):List (List UInt8):=(List.range aa.j.m).map (nF aa.j T (red aa.j aa.cs T) aa.j.n)
def tK(aa:ar)(xs:List (List UInt8)):List UInt8:=match gy aa xs with
 | some v=>bk v
 | none=>[]
inductive sH(aa:ar)(pE ob:bu->Prop):cW->Prop
 | inf (T:bu) (a:Nat):pE T->lH aa.j T=some a->lU aa.j T a (off aa.j T.v (T.rows a))=none->sH aa pE ob ⟨2,[],[],(List.range aa.j.m).map (lF aa.j T a),[]⟩
 | cB (T:bu) (ad:Nat):ob T->enters aa.j aa.cs T=some ad->(dW aa.j T ad (eF aa.j aa.cs T ad) aa.j.m).e4=none->sH aa pE ob ⟨3,[],il aa T,[],(List.range aa.j.n).map (lC T ad (eF aa.j aa.cs T ad) aa.j.m)⟩
 | opt (T:bu):ob T->enters aa.j aa.cs T=none->sH aa pE ob ⟨1,tK aa (il aa T),il aa T,y0 aa T,[]⟩
structure x'(aa:ar)(pE ob:bu->Prop)(t:Nat):Prop where
 t1:1<=t
 xR:t<=20000
 s1:pE aa.Y
 g1:∀T,pE T->Inv aa.j T/\js aa.j T t/\Ends (jx aa.j) T
 cw:∀T yd,pE T->jx aa.j T=some yd->pE yd
 s2:∀T,pE T->lH aa.j T=none->ob T
 g2:∀T,ob T->Inv aa.j T/\js aa.j T t/\Ends (h' aa.j aa.cs) T
 gg:∀T yd,ob T->h' aa.j aa.cs T=some yd->ob yd
 D2:∀T,ob T->jO (il aa T)
theorem MZ(d:fC X)(g:bl pm H){aa:ar}(e:aa.ok){v:Value}(hv:kA H v aa){L M:bu->Prop}{t:Nat}(hR:aa.I=true->x' aa L M t):
 Call X pm F.qF [v] H λr ab=>K pm H ab/\(aa.I=false/\r=.tuple #[.agg #[.int .i64 0,ak [],.slice none 0 0,.slice none 0 0,.slice none 0 0],.bool false]∨aa.I=true/\∃a u,r=.tuple #[u,.bool true]/\ky ab H.next u a/\sH aa L M a):=by
 refine Call.W d.qF rfl λ_ B=>?_;have ag:=hv;obtain⟨_,_,rfl,C,N⟩:=hv;obtain⟨l,m,rfl,_⟩:=C.at;obtain⟨o,p,rfl,_⟩:=N.at;obtain⟨b0,ah⟩:∃O,O=H.next:=⟨_,rfl⟩;obtain⟨q,P⟩:∃q,q=H.new (.cells [.slice l aa.a.length m,.slice o aa.rows.length p] (.t tySB)):=⟨_,rfl⟩;have Q:K pm H q:=by rw[P];exact K.new g _
 have g1:=Q.q;have ar:q.get b0=some (.cells [.slice l aa.a.length m,.slice o aa.rows.length p] (.t tySB)):=by rw[P,ah];exact cc
 obtain⟨h,ai⟩:∃O,O=q.next:=⟨_,rfl⟩;obtain⟨D,S⟩:∃D,D=q.new (.cells [.int .i64 0,.string ⟨#[]⟩,.slice none 0 0,.slice none 0 0,.slice none 0 0] (.t tyA)):=⟨_,rfl⟩;have O:K pm q D:=by rw[S];exact K.new g1 _
 have T:=O.q;have au:D.get h=some (.cells [.int .i64 0,.string ⟨#[]⟩,.slice none 0 0,.slice none 0 0,.slice none 0 0] (.t tyA)):=by rw[S,ai];exact cc
 have aj:=O.some g1 ar;have an:=Q.trans O;have q:=Q.next;have E:pm.may h=true:=g.may (by omega);simp[g.pick,g.make,ptr,<-ah,<-P,  <-ai,<-S,aj,bB,bA,-J7,-J9,-Kh];refine al.of (aq:=[.agg #[.slice l aa.a.length m,.slice o aa.rows.length p]]) (qV d.tofA T (ag.ext (an.ext g)) e) ?_;rintro _ H3 ⟨G,rfl⟩;have s:=G.q;have x:=an.trans G;have I:=G.some T au;have ao:=G.some T aj
 cases j:aa.I with
 | false=>
   simp[I,E,setCells];refine B _ _ _ ?_;simp[ft,bA,bB,j];have:=aC.put (n:=H.next) (.refl s) (show H.next<=h by omega) I (by simp) (.cells [.int .i64 0,.string ⟨#[]⟩,.slice none 0 0,.slice none 0 0,.slice none 0 0] (.t tyA));exact aC.trans x this
 | true=>
   have R:=hR j;simp[ao,bB,bA,-J6,-Kg];refine al.of (aq:=[.agg #[.slice l aa.a.length m,.slice o aa.rows.length p]]) (YR d s e j (C.ext (x.ext g)) (N.ext (x.ext g))) ?_;rintro _ H4 ⟨r,k,rfl,q⟩;have U:=x.trans r;have D:=r.q;have i:=aa.Zb;have po:=i.ok e;have V:∀{ab:ae},aC pm H3.next H4 ab->K pm H ab/\hO ab (.slice l aa.a.length m) aa.a/\jn ab (.slice o aa.rows.length p) aa.rows/\ab.get h=some (.cells [.int .i64 0,.string ⟨#[]⟩,.slice none 0 0,.slice none 0 0,.slice none 0 0] (.t tyA))/\ab.get b0=some (.cells [.slice l aa.a.length m,.slice o aa.rows.length p] (.t tySB)):=λu=>by
    have a:K pm H3 _:=aC.trans r u;have b:=K.trans x a;exact⟨b,C.ext (b.ext g),N.ext (b.ext g),a.some s I,a.some s ao⟩
   simp[-Kf,-J5,-J4];refine al.of (aq:=[.pointer (some ⟨k 0,0,none⟩)]) (Wy d D s.ah r.next po L R.t1 R.xR R.g1 R.cw q R.s1) ?_;rintro _ _ ⟨W,v,t5,X,h5⟩;have Y:=v.q;obtain⟨av,c5,r5,aw,_⟩:=V v;obtain⟨ax,ay,_⟩:=R.g1 W X;have F:=R.xR;have Z:∀{ab:ae} (q:List Value),K pm H ab->ab.get h=some (.cells [.int .i64 0,.string ⟨#[]⟩,.slice none 0 0,.slice none 0 0,.slice none 0 0] (.t tyA))->K pm H (ab.put h (.cells q (.t tyA)))/\aC pm H.next ab (ab.put h (.cells q (.t tyA))):=λq w f=>by
    have u:=aC.put (n:=H.next) (.refl w.q) (show H.next<=h by omega) f (by simp) (.cells q (.t tyA));exact⟨aC.trans w u,u⟩
   have y:∀c,H4.next<=c->h≠c:=λc C=>by
    have:=s.lt I;have:=r.next;omega
   rcases h5 with⟨hw,rfl⟩ | ⟨a,hw,wu,rfl⟩
   ·simp[-Kd,-J3,-Ka];refine al.of (aq:=[.pointer (some ⟨k 0,0,none⟩)]) (Wb d Y s.ah (a8 r.next v.next) e j i c5 (λab u=>(V (v.trans u)).2.1) M R.t1 R.xR R.g2 R.gg t5 (R.s2 W X hw)) ?_;rintro _ _ ⟨a,q,n,H,h6⟩;have h:=v.trans q;have b:=h.q;obtain⟨K,z,r6,ae,az⟩:=V h;obtain⟨af,A,_⟩:=R.g2 a H;have q:=h.next
    rcases h6 with⟨he,rfl⟩ | ⟨ad,he,wq,rfl⟩
    ·simp[-J',-Kj];refine al.of (aq:=[.pointer (some ⟨k 0,0,none⟩)]) (RW d b e i n z F A) ?_;rintro _ _ ⟨u,c,rfl,_,s7⟩;have h:=K.trans u;have q:=u.some b az;have r:=u.some b ae;have g7:=u.q;simp[q,bB,bA,-Ki,-J8];refine al.of (aq:=[.agg #[.slice l aa.a.length m,.slice o aa.rows.length p],.slice (some ⟨c,0,none⟩) aa.j.n aa.j.n]) (M8 d.tofA g7 (ag.ext (h.ext g)) e s7.strs (R.D2 a H)) ?_;rintro _ _ ⟨k8,rfl⟩;have J:=u.trans k8;have g8:=k8.q;have ad:lG (gy aa (il aa a))=.tuple #[ak (tK aa (il aa a)),.bool (gy aa (il aa a)).isSome]:=by
      unfold tK;cases gy aa (il aa a)<;>rfl
     rw[show(List.map (λh=>bk (a.v h)) (List.range aa.j.n))=il aa a from rfl,ad];simp[-Kc];refine al.of (aq:=[.pointer (some ⟨k 0,0,none⟩)]) (Sb d g8 e j i (n.k b J) (z.ext (J.ext b)) af.B (t:=t) (by omega) A) ?_;rintro h _ ⟨k9,l⟩;have g:=J.trans k9;have m:=k9.q;have o:∀w,w<aa.j.n->aV (red aa.j aa.cs a w) 10000000:=λw p=>dY (Dt e i A p (bc _)) (by
      have p:=po.m;have:aa.j.m*(10001+t)<=40*30001:=gk p (by omega);omega)
     simp[-Kb];refine al.of (aq:=[.pointer (some ⟨k 0,0,none⟩),h]) (OD d m e i (n.k b g) (z.ext (g.ext b)) (r6.ext (g.ext b)) af.B l (h0:=10000000) (by omega) o) ?_;rintro _ _ ⟨ab,f,rfl,_,aA⟩;have h:=g.trans ab;have l:=h.some b ae;have m:=J.next;have m:=g.next;obtain⟨g,_⟩:=Z [.int .i64 1,ak (tK aa (il aa a)),.slice (some ⟨c,0,none⟩) aa.j.n aa.j.n,.slice (some ⟨f,0,none⟩) aa.j.m aa.j.m,.slice none 0 0] (K.trans h) l;simp[l,E,setCells,bA];refine B _ _ _ ?_;simp[ft,bB,bA,j];refine⟨g,_,?_,.opt a H he⟩;have g:=U.next;exact⟨_,_,_,rfl,((s7.k g7 (k8.trans (k9.trans ab))).gw (y c (by omega)) _).ho (by omega),(aA.gw (y f (by omega)) _).ho (by omega),.nil⟩
    ·have t:=ym he;simp[-Kl];refine al.of (aq:=[.pointer (some ⟨k 0,0,none⟩)]) (RW d b e i n z F A) ?_;rintro _ _ ⟨g,c,rfl,_,s7⟩;have u:=g.q;obtain⟨t,J,_⟩:=j' he;simp only[bK,cP]at J;have ab:eF aa.j aa.cs a ad=1∨eF aa.j aa.cs a ad=-1:=by
      unfold eF
      rcases jg J.1 with⟨_,f⟩ | ⟨_,f⟩<;>rw[f]<;>simp
     simp[-Kk];refine al.of (aq:=[.pointer (some ⟨k 0,0,none⟩),.int .i64 (ad:Int),.int .i64 (eF aa.j aa.cs a ad)]) (aar d u e i (n.k b g) (z.ext (g.ext b)) af.B F A t ab) ?_;rintro _ _ ⟨k8,f,rfl,_,s8⟩;have h:=g.trans k8;have l:=h.some b ae;have b:=g.next;obtain⟨b,_⟩:=Z [.int .i64 3,.string ⟨#[]⟩,.slice (some ⟨c,0,none⟩) aa.j.n aa.j.n,.slice none 0 0,.slice (some ⟨f,0,none⟩) aa.j.n aa.j.n] (K.trans h) l;simp[l,E,setCells,bA];refine B _ _ _ ?_;simp[ft,bB,bA,j];refine⟨b,_,?_,.cB a ad H he wq⟩;have a:=U.next;exact⟨_,_,_,rfl,((s7.k u k8).gw (y c (by omega)) _).ho (by omega),.nil,(s8.gw (y f (by omega)) _).ho (by omega)⟩
   ·obtain⟨f,_⟩:=j' hw;simp[-Ke];refine al.of (aq:=[.pointer (some ⟨k 0,0,none⟩),.int .i64 (a:Int)]) (abc d Y e i t5 c5 r5 ax.B F ay f) ?_;rintro _ _ ⟨b,c,rfl,_,g⟩;have d:=b.some Y aw;have e:=v.next;obtain⟨e,_⟩:=Z [.int .i64 2,.string ⟨#[]⟩,.slice none 0 0,.slice (some ⟨c,0,none⟩) aa.j.m aa.j.m,.slice none 0 0] (av.trans b) d;simp[d,E,setCells,bA];refine B _ _ _ ?_;simp[ft,bB,bA,j];refine⟨e,_,?_,.inf W a X hw wu⟩;have b:=U.next;exact⟨_,_,_,rfl,.nil,(g.gw (y c (by omega)) _).ho (by omega),.nil⟩
def fR:Option Rat->List UInt8
 | some q=>bk q
 | none=>[]
def ga(aa:ar)(a:cW):Bool:=
 if a.st=1 then(gy aa a.x).isSome&&((eX aa a.d true).isSome&&(decide (fR (gy aa a.x)=a.val)&&(decide (fR (eX aa a.d true)=a.val)&&(fU aa a.x&&decide (a.r.length=0)))))
 else if a.st=2 then(eX aa a.d false).isSome&&(decide (0<rd (fR (eX aa a.d false)))&&(decide (a.val=[])&&decide (a.x.length+a.r.length=0)))
 else if a.st=3 then fU aa a.x&&(iL aa a.r&&(decide (a.val=[])&&decide (a.d.length=0)))
 else false
structure cW.ok(a:cW):Prop where
 x:jO a.x
 d:jO a.d
 r:jO a.r
theorem aau(l:List UInt8):aV (rd l) 2000:=by
 unfold rd
 cases e:gq l with
 | none=>exact qB
 | some _=>
   unfold gq lh at e;split at e
   ·rename_i b;obtain⟨c,d,a,_⟩:=b;simp only[aJ]at e;obtain⟨f,g,_⟩:=wk c;obtain⟨h,i,_⟩:=wk d;have j:=lv f g;have k:=lv h i;rw[<-e];simp only[je];exact⟨by rw[CD a];exact dk (lA _ _) j,by rw[CC a];exact dk (lA _ _) k⟩
   ·cases e
theorem wD{α:Type}(l:List α):((l.length:Int)==0)=decide (l.length=0):=by
 cases l with
 | nil=>rfl
 | cons _ l=>simp;omega
theorem JM(o:Option Rat):lG o=.tuple #[ak (fR o),.bool o.isSome]:=by cases o<;>rfl
abbrev tyCB:Nat:=T.Hn
abbrev tyCA:Nat:=T.Ho
theorem FR(l:fC X)(g:bl pm H){aa:ar}(x:aa.ok){v w:Value}(R:kA H v aa){a:cW}(hw:qU H w a)(c:a.ok)(hb:a.st=2->(fR (eX aa a.d false)).length<1000000):Call X pm F.rY [v,w] H λr ab=>K pm H ab/\r=.bool (ga aa a):=by
 refine Call.W l.rY rfl λQ I=>?_;have ag:=R;obtain⟨_,_,rfl,b,hr⟩:=R;obtain⟨d,f,rfl,_⟩:=b.at;obtain⟨i,j,rfl,_⟩:=hr.at;obtain⟨_,_,_,rfl,W,X,Y⟩:=hw;obtain⟨s,t,ah,_⟩:=W.ex;obtain⟨v,w,ai,_⟩:=X.ex;obtain⟨B,C,aj,_⟩:=Y.ex;subst ah ai aj;obtain⟨Z,ad⟩:∃y,y=H.next:=⟨_,rfl⟩;obtain⟨u,O⟩:∃u,u=H.new (.cells [.slice d aa.a.length f,.slice i aa.rows.length j] (.t tyCB)):=⟨_,rfl⟩;have k1:K pm H u:=by rw[O];exact K.new g _
 have g1:=k1.q;have an:u.get Z=some (.cells [.slice d aa.a.length f,.slice i aa.rows.length j] (.t tyCB)):=by rw[O,ad];exact cc
 obtain⟨ba,af⟩:∃y,y=u.next:=⟨_,rfl⟩;obtain⟨D,P⟩:∃D,D=u.new (.cells [.int .i64 a.st,ak a.val,.slice s a.x.length t,.slice v a.d.length w,.slice B a.r.length C] (.t tyCA)):=⟨_,rfl⟩;have R:K pm u D:=by rw[P];exact K.new g1 _
 have n:=R.q;have E:D.get ba=some (.cells [.int .i64 a.st,ak a.val,.slice s a.x.length t,.slice v a.d.length w,.slice B a.r.length C] (.t tyCA)):=by rw[P,af];exact cc
 have J:=R.some g1 an;have o:=k1.trans R;have m:∀{ab:ae},K pm D ab->ab.get Z=some (.cells [.slice d aa.a.length f,.slice i aa.rows.length j] (.t tyCB))/\ab.get ba=some (.cells [.int .i64 a.st,ak a.val,.slice s a.x.length t,.slice v a.d.length w,.slice B a.r.length C] (.t tyCA))/\kA ab (.agg #[.slice d aa.a.length f,.slice i aa.rows.length j]) aa/\fp ab (.slice s a.x.length t) a.x/\fp ab (.slice v a.d.length w) a.d/\fp ab (.slice B a.r.length C) a.r:=λk=>
  ⟨k.some n J,k.some n E,ag.ext ((o.trans k).ext g),W.ext ((o.trans k).ext g),X.ext ((o.trans k).ext g),Y.ext ((o.trans k).ext g)⟩
 simp[g.pick,g.make,ptr,<-ad,<-O,  <-af,<-P,E,-C8,-CF];by_cases z:a.st=1
 ·have F:(a.st==1)=true:=by simpa using z
  simp[F,E,J,bB,bA,-El,-DF];obtain⟨q,e,g,r,L,S⟩:=m (K.refl n);refine al.of (aq:=[.agg #[.slice d aa.a.length f,.slice i aa.rows.length j],.slice s a.x.length t]) (M8 l.tofA n g x r c.x) ?_;rintro _ _ ⟨T,rfl⟩;obtain⟨q,e,g,r,L,S⟩:=m T;rw[JM];simp[q,e,bB,bA,-D5,-C'];refine al.of (aq:=[.agg #[.slice d aa.a.length f,.slice i aa.rows.length j],.slice v a.d.length w,.bool true]) (Mr l.tofA T.q g x L c.d) ?_;rintro _ _ ⟨k4,rfl⟩;have U:=T.trans k4;obtain⟨q,e,g,r,L,S⟩:=m U;have h:=o.trans U;rw[JM];have p:∀u ab,K pm H ab->aF 4 u=some (.bool (ga aa a))->Q .ret u ab:=λu ab k u=>I _ _ _ (by simp[u];exact k);have b:ga aa a=((gy aa a.x).isSome&&((eX aa a.d true).isSome&&(decide (fR (gy aa a.x)=a.val)&&(decide (fR (eX aa a.d true)=a.val)&&(fU aa a.x&&decide (a.r.length=0)))))):=by rw[ga,aL z]
  cases V:(gy aa a.x).isSome with
  | false=>
    simp[aR,-sn];refine al.not ?_;simp[aR];exact p _ _ h (by simp[b,V])
  | true=>
    cases b2:(eX aa a.d true).isSome with
    | false=>
      simp[aR,-sn];refine al.not ?_;simp[aR];exact p _ _ h (by simp[b,V,b2])
    | true=>
      by_cases G:fR (gy aa a.x)=a.val
      ·by_cases H:fR (eX aa a.d true)=a.val
       ·have u:(fR (gy aa a.x)==a.val)=true:=by simpa using G
        have D:(fR (eX aa a.d true)==a.val)=true:=by simpa using H
        simp[q,e,bB,bA,u,D,eM,-sn];refine al.of (aq:=[.agg #[.slice d aa.a.length f,.slice i aa.rows.length j],.slice s a.x.length t]) (MD l.tofA k4.q g x r c.x) ?_;rintro _ _ ⟨K,rfl⟩;obtain⟨q,e,g,r,L,S⟩:=m (U.trans K)
        cases b5:fU aa a.x with
        | false=>
          simp[aR];exact p _ _ (h.trans K) (by simp[b,b5])
        | true=>
          simp[e];exact p _ _ (h.trans K) (by rw[wD];simp[b,V,b2,G,H,b5])
       ·have g:(fR (gy aa a.x)==a.val)=true:=by simpa using G
        have q:(fR (eX aa a.d true)==a.val)=false:=by simpa using H
        simp[aR,e,g,q,eM,-sn];refine al.not ?_;simp[aR];exact p _ _ h (by simp[b,H])
      ·have g:(fR (gy aa a.x)==a.val)=false:=by simpa using G
       simp[aR,e,g,eM,-sn];refine al.not ?_;simp[aR];exact p _ _ h (by simp[b,G])
 have F:(a.st==1)=false:=by simpa using z
 by_cases A:a.st=2
 ·have M:(a.st==2)=true:=by simpa using A
  simp[F,M,E,J,bB,bA,-D3,-DX];obtain⟨z1,S,T,z4,U,z6⟩:=m (K.refl n);refine al.of (aq:=[.agg #[.slice d aa.a.length f,.slice i aa.rows.length j],.slice v a.d.length w,.bool false]) (Mr l.tofA n T x U c.d) ?_;rintro _ _ ⟨V,rfl⟩;rw[JM];have v:=hb A;have G:∀u ab,K pm H ab->aF 4 u=some (.bool (ga aa a))->Q .ret u ab:=λu ab k u=>I _ _ _ (by simp[u];exact k);have b:ga aa a=((eX aa a.d false).isSome&&(decide (0<rd (fR (eX aa a.d false)))&&(decide (a.val=[])&&decide (a.x.length+a.r.length=0)))):=by rw[ga,aw z,aL A]
  simp[-Em,-DU];refine al.of (aq:=[ak (fR (eX aa a.d false))]) (qS l.toEL V.q v) ?_;rintro r H4 ⟨k4,h4⟩;have u:=V.trans k4;obtain⟨z1,S,T,z4,U,z6⟩:=m u;have L:=o.trans u;obtain⟨g,y,rfl,hu⟩:∃g y,r=.tuple #[g,.bool y]/\nJ H4 g=some (rd (fR (eX aa a.d false))):=by
   rcases h4 with⟨e,rfl⟩ | ⟨q,p,e,rfl,fw⟩
   ·exact⟨_,_,rfl,by simp[nJ,rd,e]⟩
   ·exact⟨_,_,rfl,by rw[fw.of];simp[rd,e]⟩
  cases b1:(eX aa a.d false).isSome with
  | false=>
    simp[aR,-wA];refine al.not ?_;simp[aR];exact G _ _ L (by simp[b,b1])
  | true=>
    simp[-wA];refine al.of (aq:=[g]) (hA l.toEL k4.q hu ((aau _).bo (by decide))) ?_;rintro _ H4 ⟨rfl,rfl⟩;by_cases p:0<rd (fR (eX aa a.d false))
    ·by_cases g:a.val=[]
     ·have q:(a.val==[])=true:=by simpa using g
      have q:wr .i64 ((a.x.length:Int)+(a.r.length:Int))=(a.x.length:Int)+(a.r.length:Int):=cE (aP:=by have:=c.x.len;have:=c.r.len;omega) (h:=by have:=c.x.len;have:=c.r.len;omega);simp[tC,p,S,g,eM,q];refine G _ _ L ?_;have q:(((a.x.length:Int)+(a.r.length:Int))==0)=decide (a.x.length+a.r.length=0):=by
       by_cases e:a.x.length+a.r.length=0
       ·have:(a.x.length:Int)+(a.r.length:Int)=0:=by omega
        simp[this,e]
       ·have:¬(a.x.length:Int)+(a.r.length:Int)=0:=by omega
        simp only[e,decide_false];simpa using this
      rw[b];simp only[b1,p,g,q,decide_true,Bool.true_and];simp
     ·have e:(a.val==[])=false:=by simpa using g
      have h:a.val.isEmpty=false:=by simpa using g
      simp[aR,tC,p,S,e, eM];exact G _ _ L (by simp[b,g])
    ·simp[aR,tC,p];exact G _ _ L (by simp[b,p])
 have M:(a.st==2)=false:=by simpa using A
 by_cases N:a.st=3
 ·have u:(a.st==3)=true:=by simpa using N
  simp[F,M,u,E,J,bB,bA,-D4];obtain⟨q,e,g,r,L,G⟩:=m (K.refl n);refine al.of (aq:=[.agg #[.slice d aa.a.length f,.slice i aa.rows.length j],.slice s a.x.length t]) (MD l.tofA n g x r c.x) ?_;rintro _ _ ⟨h,rfl⟩;obtain⟨q,e,g,r,L,G⟩:=m h;have S:=o.trans h;have p:∀n ab,K pm H ab->aF 4 n=some (.bool (ga aa a))->Q .ret n ab:=λn ab k n=>I _ _ _ (by simp[n];exact k);have b:ga aa a=(fU aa a.x&&(iL aa a.r&&(decide (a.val=[])&&decide (a.d.length=0)))):=by rw[ga,aw z,aw A,aL N]
  cases T:fU aa a.x with
  | false=>
    simp[aR,-wz];refine al.not ?_;simp[aR];exact p _ _ S (by simp[b,T])
  | true=>
    simp[q,e,bB,bA,-wz];refine al.of (aq:=[.agg #[.slice d aa.a.length f,.slice i aa.rows.length j],.slice B a.r.length C]) (UI l.tofA h.q g x G c.r) ?_;rintro _ _ ⟨K,rfl⟩;obtain⟨q,e,g,r,L,G⟩:=m (h.trans K);have H:=S.trans K
    cases U:iL aa a.r with
    | false=>
      simp[aR];exact p _ _ H (by simp[b,U])
    | true=>
      by_cases c:a.val=[]
      ·simp[e,c,eM];refine p _ _ H ?_;rw[wD];simp[b,T,U,c]
      ·have d:(a.val==[])=false:=by simpa using c
       have f:a.val.isEmpty=false:=by simpa using c
       simp[aR,e,d, eM];exact p _ _ H (by simp[b,c])
 ·have b:(a.st==3)=false:=by simpa using N
  simp[F,M,b];refine I _ _ _ ?_;simp[ga,z,A,N];exact o
end Go.Dam.C
namespace Go.Dam.C
section
variable{P:bM}{c:Nat->Rat}{T:bu}
def jL(P:bM)(v:Nat->Rat)(x:Nat):Prop:=v x=0∨P.ah x=some (v x)∨P.up x=some (v x)
structure hv(P:bM)(s:Nat->Nat)(T:bu):Prop where
 inv:Inv P T
 sR:gB P s T≠0
 at':∀k,k<P.n->jL P T.v (T.a k)
theorem Ww{a ad:Nat}(h:Inv P T)(g:qT P T a ad)(aI:∀k,k<P.n->jL P T.v (T.a k)):∀k,k<P.n->jL P (jy P T a ad).v ((jy P T a ad).a k):=by
 intro k b;show jL P (jy P T a ad).v (if k=ad then T.rows a else T.a k);by_cases e:k=ad
 ·rw[aL e];unfold jL;rw[GM h g];unfold goal
  rcases tc g.off with⟨fr,l,aY,_⟩ | ⟨fr,u,hu,_⟩
  ·rw[fr,aw (by decide),aY];exact .inr (.inl rfl)
  grind
 ·rw[aw e];have:(jy P T a ad).v (T.a k)=T.v (T.a k):=by
   show(T.gR P ad _).v (T.a k)=_;rw[wN h.B g.dN b,aw e]
  have a:=aI k b;unfold jL at a|-;grind
theorem hv.fit{s:Nat->Nat}(b:∀x,1<=s x)(h:hv P s T){a ad:Nat}(g:qT P T a ad):hv P s (jy P T a ad):=
 ⟨OW h.inv g,Mw (T:=T.gR P ad (uu P T a ad)) b (h.inv.gR g.dN _) g.aI g.dN g.qi h.sR,Ww h.inv g h.at'⟩
theorem ix.U5(h:Inv P T){ad:Nat}{aM:Int}{f:hy}{q:Rat}(g:ix P c T ad aM f q)(aI:∀k,k<P.n->jL P T.v (T.a k)):∀k,k<P.n->jL P (jw P T ad aM q f.ind).v ((jw P T ad aM q f.ind).a k):=by
 intro k c
 cases b:f.ind with
 | none=>
   have a:=g.Aw h.B c;rw[b]at a;show jL P (jw P T ad aM q none).v (T.a k);by_cases e:k=ad
   ·subst e;rw[aL rfl]at a;have d:=(g.Q.own b).1;rw[g.e4]at d;unfold jL;rw[a]
    rcases g.iP with rfl | rfl
    ·obtain⟨_,_,_⟩:=Ab d.symm;grind
    ·obtain⟨_,_,_⟩:=Aa d.symm;grind
   ·rw[aw e]at a;have a:=aI k c;unfold jL at a|-;grind
 | some a=>
   obtain⟨l,f,_,r,d,i⟩:=g.Q.row a b;show jL P (jw P T ad aM q (some a)).v (if k=ad then T.rows a else T.a k);by_cases e:k=ad
   ·rw[aL e];have j:=g.TE h.B l;rw[b]at j;rw[g.e4]at i;have k:=lg f;have k:dH (T.M a ad)*q=r:=by
     have:q=r/dH (T.M a ad):=jH i;have g:dH (T.M a ad)≠0:=by grind
     grind
    unfold jL;rw[j]
    rcases xG g.iP f with⟨fr,cA⟩ | ⟨fr,cA⟩<;>rw[fr]at d<;>rw[cA]
    ·obtain⟨_,_,_⟩:=Ab d;grind
    ·obtain⟨_,_,_⟩:=Aa d;grind
   ·rw[aw e];have a:=g.Aw h.B c;rw[b,aw e]at a;have a:=aI k c;unfold jL at a|-;grind
theorem hv.desc{s:Nat->Nat}(a:∀x,1<=s x)(h:hv P s T){ad:Nat}{aM:Int}{f:hy}{q:Rat}(g:ix P c T ad aM f q):hv P s (jw P T ad aM q f.ind):=by
 refine⟨g.inv h.inv,?_,g.U5 h.inv h.at'⟩
 cases b:f.ind with
 | none=>exact h.sR
 | some c=>
   obtain⟨d,e,_⟩:=g.Q.row c b;exact Mw (T:=T.gR P ad _) a (h.inv.gR g.dN _) d g.dN e h.sR
structure x9(P:bM)(V:Nat):Prop where
 v1:1<=V
 ah:∀x l,P.ah x=some l->bI V l
 up:∀x u,P.up x=some u->bI V u
theorem nx{V:Nat}(h:1<=V):bI V 0:=⟨by simp,h⟩
theorem jL.bI{V:Nat}(a:x9 P V){v:Nat->Rat}{x:Nat}(h:jL P v x):bI V (v x):=by
 rcases h with h | h | h
 ·rw[h];exact nx a.v1
 ·exact a.ah x _ h
 ·exact a.up x _ h
structure Ms(P:bM)(c:Nat->Rat)(S E Js:Nat):Prop where
 p:1<=Js
 le:Js<=S
 z:∀j,j<P.n->dP ((Js:Rat)*c j) E
def oc(P:bM)(s:Nat->Nat)(T:bu):Prop:=hv P s T/\tS P T
def nq(P:bM)(s:Nat->Nat)(T:bu):Prop:=hv P s T/\oa P T
theorem oc.next{s:Nat->Nat}(b:∀x,1<=s x)(c:ya P){a:bu}(h:oc P s T)(e:jx P T=some a):oc P s a:=by
 obtain⟨_,_,g,rfl⟩:=OV e;exact⟨h.1.fit b g,OX c h.1.inv h.2 g⟩
theorem nq.next{s:Nat->Nat}(b:∀x,1<=s x){a:bu}(h:nq P s T)(e:h' P c T=some a):nq P s a:=by
 obtain⟨_,_,_,_,g,rfl⟩:=Ot e;exact⟨h.1.desc b g,g.GL h.1.inv h.2⟩
theorem oc.two{s:Nat->Nat}(h:oc P s T)(e:lH P T=none):nq P s T:=by
 refine⟨h.1,λx a=>?_⟩
 rcases h.1.inv.B.jQ x a with⟨i,az,rfl⟩ | ⟨k,av,rfl⟩
 ·have:=yo e i az;exact Rd (by grind)
 ·exact h.2 k av
theorem nq.ends{s:Nat->Nat}{S E V e:Nat}(b:nt P s S E)(d:x9 P V)(a:Ms P c S E e)(h:nq P s T):Ends (h' P c) T:=
 Wa (nq P s) (λ_ _ h e=>h.next b.pos e) (λ_ h=>⟨h.1.inv,h.2⟩) (λ_ h=>Q' b h.1.inv h.1.sR d.v1 (λk b=>(h.1.at' k b).bI d) a.p a.le a.z) h
theorem hv.JR{s:Nat->Nat}{S E V:Nat}(b:nt P s S E)(a:x9 P V)(h:hv P s T){x:Nat}(c:x<P.n+P.m):bI (jP P.n ((P.n*E)^P.n) S V+V) (T.v x):=
 C.JR b h.inv h.sR a.v1 (λk b=>(h.at' k b).bI a) c
end
def kD:List dL->Nat->Rat
 | [],_=>0
 | c::l,j=>kD l j+if j=c.ad.toNat then rd c.v else 0
theorem SU{n:Int}:∀{l:List dL} {last:Int} {f:Nat->Rat},-1<=last->hB n last l=true->(∀j:Nat,last<(j:Int)->f j=0)->∀j,l.foldl kq f j=f j+kD l j
 | [],_,f,_,_,_,j=>by simp[kD,lB]
 | c::l,last,f,_,h,a,j=>by
   simp only[hB,bK,cP]at h;obtain⟨_,_,_,_,b⟩:=h;have d:(c.ad.toNat:Int)=c.ad:=by omega
   have d:f c.ad.toNat=0:=a _ (by omega);rw[xe,SU (last:=c.ad) (by omega) b λk _=>?_]
   ·show(if j=c.ad.toNat then rd c.v else f j)+kD l j=f j+(kD l j+if j=c.ad.toNat then rd c.v else 0);grind
   ·show(if k=c.ad.toNat then rd c.v else f k)=0;grind
theorem aaM{n:Int}{l:List dL}(h:hB n (-1) l=true)(j:Nat):hs l j=kD l j:=by
 rw[hs,SU (Int.le_refl _) h λ_ _=>rfl,De]
theorem Dx:∀{l:List dL} {f:Nat->Rat} (j:Nat),l.foldl kq f j=f j∨∃c∈l,l.foldl kq f j=rd c.v
 | [],f,j=>.inl rfl
 | c::l,f,j=>by
   rw[xe]
   rcases Dx (l:=l) (f:=kq f c) j with h | ⟨_,_,h⟩
   ·rw[h];unfold kq;split
    ·exact .inr ⟨c,.head _,rfl⟩
    ·exact .inl rfl
   grind
theorem Ox{n:Nat}{x:Nat->Rat}:∀{l:List dL},(∀c∈l,0<=c.ad/\c.ad<n)->gM l x=aS (λj=>kD l j*x j) n
 | [],_=>(ng λ_ _=>by simp[kD]).symm
 | c::l,h=>by
   obtain⟨_,_⟩:=h c (.head _);have e:aS (λj=>kD (c::l) j*x j) n=aS (λj=>kD l j*x j+(if j=c.ad.toNat then rd c.v else 0)*x j) n:=c9 λj _=>by
    show(kD l j+_)*x j=_;grind
   have a:aS (λj=>(if j=c.ad.toNat then rd c.v else 0)*x j) n=rd c.v*x c.ad.toNat:=by
    rw[nf (j:=c.ad.toNat) (by omega) λ_ _ _=>by grind,aL rfl]
   rw[e,kr,gM,Ox λd b=>h d (.tail _ b),a]
theorem Sj{y:Rat}:∀{l:List dL} {d:Nat->Rat} (j:Nat),ko l y d j=d j-y*kD l j
 | [],d,j=>by simp[ko,kD];grind
 | c::l,d,j=>by
   have:ko (c::l) y d j=ko l y (n6 y d c) j:=rfl;rw[this,Sj];show(if j=c.ad.toNat then d j-rd c.v*y else d j)-y*kD l j=d j-y*(kD l j+if j=c.ad.toNat then rd c.v else 0);split<;>grind
section
variable{aa:ar}
theorem Si{r:b9}{n:Nat}(h:iM r n=true):hB n (-1) r.G=true/\∀c∈r.G,0<=c.ad/\c.ad<n:=by
 simp only[iM,bK]at h;refine⟨h.1,λc a=>?_⟩;obtain⟨_,_,_⟩:=(yP h.1).1 c a;grind
theorem Cy(a:aa.I=true){i:Nat}(b:i<aa.rows.length):iM (aa.row i) aa.a.length=true:=uK a (cX (ar.rowAt b))
theorem YS(a:aa.I=true){i:Nat}(b:i<aa.a.length):h9 (aa.ad i)=true:=uJ a (cX (ar.kc b))
theorem Mm(a:aa.I=true){i:Nat}(b:i<aa.rows.length)(j:Nat):aa.j.A i j=kD (aa.row i).G j:=aaM (Si (Cy a b)).1 j
theorem yY(a:aa.I=true){i:Nat}(b:i<aa.rows.length)(x:Nat->Rat):gM (aa.row i).G x=aS (λj=>aa.j.A i j*x j) aa.a.length:=by
 rw[Ox (Si (Cy a b)).2];exact c9 λj _=>by rw[Mm a b]
theorem Ol(a:aa.I=true){bQ:Bool}{y:Nat->Rat}:∀{k:Nat},k<=aa.rows.length->∀j,q8 aa bQ y k j=d0 aa bQ j-aS (λi=>y i*aa.j.A i j) k
 | 0,_,j=>by
   show d0 aa bQ j=_;simp only[aS];grind
 | k+1,_,j=>by
   show ko (aa.row k).G (y k) (q8 aa bQ y k) j=_;rw[Sj,Ol a (by omega),aS,Mm a (by omega)];grind
theorem abI:dT aa.j aa.Y where
 r:=λi a=>by show aa.a.length+i<aa.a.length+aa.rows.length;exact Nat.add_lt_add_left a _
 c:=λk a=>by show k<aa.a.length+aa.rows.length;exact fK a (gj _ _)
 na:=λi j _ _ e=>by have e:aa.a.length+i=aa.a.length+j:=e;omega
 ci:=λi j _ _ e=>e
 rc:=λi k _ a e=>by have e:aa.a.length+i=k:=e;have a:k<aa.a.length:=a;omega
 jQ:=λx a=>by
  have a:x<aa.a.length+aa.rows.length:=a;by_cases h:x<aa.a.length
  ·exact .inr ⟨x,h,rfl⟩
  ·exact .inl ⟨x-aa.a.length,by show x-aa.a.length<aa.rows.length;omega,by show aa.a.length+(x-aa.a.length)=x;omega⟩
theorem abH(a:aa.I=true):Inv aa.j aa.Y where
 B:=abI
 ep:=λ_=>Iff.rfl
 val:=λi b=>by
  show aa.Y.v (aa.a.length+i)=_;rw[Ts,yY a b];exact c9 λj a=>by rw[show aa.Y.v j=aa.v0 j from aL a]
 sum:=λ_=>rfl
theorem JK{l:List UInt8}:fl l=none↔l=[]:=by
 unfold fl;grind
theorem r3{l:List UInt8}{q:Rat}(h:fl l=some q):l≠[]/\q=rd l:=by
 unfold fl at h;grind
theorem IH(c:aa.I=true):ya aa.j:=by
 intro x _ _ a b;by_cases h:x<aa.a.length
 ·rw[uW h]at a;rw[uX h]at b;obtain⟨_,rfl⟩:=r3 a;obtain⟨_,rfl⟩:=r3 b;have:=YS c h;simp only[h9,bK,jG,cP]at this;grind
 ·obtain⟨i,rfl⟩:∃i,x=aa.a.length+i:=⟨x-aa.a.length,by omega⟩;rw[w6]at a;rw[w7]at b;grind
end
theorem tv{l:List UInt8}{k:Nat}(h:l.length<=k):bI (10^k) (rd l):=by
 have d:1<=10^k:=xg _ _ (by decide);unfold rd
 cases e:gq l with
 | none=>exact nx d
 | some _=>
   unfold gq lh at e;split at e
   ·rename_i f;obtain⟨a,g,b,_⟩:=f;simp only[aJ]at e;have c:∀{l:List UInt8},ie l=true->dV l<10^l.length:=λ{l} h=>by
     unfold ie at h;simp at h;exact BS (by grind)
    have h:=@Oh (ik l).2;have i:=@QK l;have j:=c a;have m:=c g;by_cases n:k=0
    ·have:l.length=0:=by omega
     obtain rfl:l=[]:=List.length_eq_zero_iff.1 this;simp[ik,kH,ie]at a
    ·have o:10^(kH (ik l).2).1.length<=10^k:=hX (by decide) (by omega);have p:10^(kH (ik l).2).2.length<=10^k:=hX (by decide) (by omega);rw[<-e];simp only[je];exact⟨by rw[CD b];exact a8 (lA _ _) (by omega),by rw[CC b];exact a8 (lA _ _) (by omega)⟩
   ·cases e
structure c5(aa:ar):Prop where
 n:aa.a.length<=6
 m:aa.rows.length<=12
 c:∀c∈aa.a,c.low.length<=30/\c.up.length<=30/\c.cost.length<=30
 r:∀r∈aa.rows,r.rhs.length<=30/\r.G.length<=1000000/\∀c∈r.G,c.v.length<=30
section
variable{aa:ar}
theorem c5.ok(h:c5 aa):aa.ok:=by
 refine⟨by have:=h.n;omega,by have:=h.m;omega,λc a=>?_,λr b=>?_⟩
 ·obtain⟨_,_,_⟩:=h.c c a;exact⟨by omega,by omega,by omega⟩
 ·obtain⟨_,d,e⟩:=h.r r b;exact⟨by omega,d,λc a=>by have:=e c a;show c.v.length<=10000;omega⟩
abbrev eC:Nat:=10^30
theorem DZ{l:List UInt8}(h:l.length<=30){q:Rat}(e:fl l=some q):bI eC q:=by
 obtain⟨_,rfl⟩:=r3 e;exact tv h
theorem Ad(h:c5 aa)(i:Nat):(aa.row i).rhs.length<=30/\∀c∈(aa.row i).G,c.v.length<=30:=by
 by_cases a:i<aa.rows.length
 ·obtain⟨_,_,_⟩:=h.r _ (cX (ar.rowAt a));grind
 ·have:aa.row i=⟨[],1,[],[],[]⟩:=by rw[ar.row,e5,hc (by omega)];rfl
  grind
theorem q6(h:c5 aa)(i:Nat):(aa.ad i).low.length<=30/\(aa.ad i).up.length<=30/\(aa.ad i).cost.length<=30:=by
 by_cases a:i<aa.a.length
 ·exact h.c _ (cX (ar.kc a))
 ·have:aa.ad i=⟨[],[],[],[],false⟩:=by rw[ar.ad,e5,hc (by omega)];rfl
  grind
theorem c5.uY(h:c5 aa):x9 aa.j eC:=by
 refine⟨by decide,λx l e=>?_,λx u e=>?_⟩
 ·have e:(if x<aa.a.length then fl (aa.ad x).low else if(aa.row (x-aa.a.length)).kind=1 then none else fl (aa.row (x-aa.a.length)).rhs)=some l:=e;split at e
  ·exact DZ (q6 h x).1 e
  ·split at e
   ·cases e
   ·exact DZ (Ad h _).1 e
 ·have e:(if x<aa.a.length then fl (aa.ad x).up else if(aa.row (x-aa.a.length)).kind=3 then none else fl (aa.row (x-aa.a.length)).rhs)=some u:=e;split at e
  ·exact DZ (q6 h x).2.1 e
  ·split at e
   ·cases e
   ·exact DZ (Ad h _).1 e
theorem c5.E0(h:c5 aa)(i j:Nat):bI eC (aa.j.A i j):=by
 rcases Dx (l:=(aa.row i).G) (f:=λ_=>0) j with e | ⟨c,a,e⟩
 ·show bI eC (hs _ j);rw[hs,e];exact nx (by decide)
 ·show bI eC (hs _ j);rw[hs,e];exact tv ((Ad h i).2 c a)
def e6(aa:ar)(x:Nat):Nat:=if x<aa.a.length then 1 else mS (λj=>(aa.j.A (x-aa.a.length) j).den) aa.a.length
def mm(n:Nat):Nat:=eC^n
def hN(n:Nat):Nat:=eC*eC^n
theorem c5.e6(h:c5 aa):nt aa.j (e6 aa) (mm aa.a.length) (hN aa.a.length):=by
 have b:1<=eC^aa.a.length:=xg _ _ (by decide);refine⟨λx=>?_,λx=>?_,λx c=>aL c,λx j c d=>?_⟩
 ·unfold C.e6;split
  ·grind
  ·exact u0 (λ_=>Rat.den_pos _) _
 ·unfold C.e6;split
  ·exact b
  ·exact tg λj _=>(h.E0 _ j).2
 ·by_cases a:x<aa.a.length
  ·have c:C.e6 aa x=1:=aL a;have e:form aa.j x j=if x=j then 1 else 0:=aL a
   have f:1<=hN aa.a.length:=tm (by decide) b;rw[c,e];split
   ·exact⟨1,by simp,f⟩
   ·exact⟨0,by simp,Nat.zero_le _⟩
  ·have b:C.e6 aa x=mS (λj=>(aa.j.A (x-aa.a.length) j).den) aa.a.length:=aw a;have c:form aa.j x j=aa.j.A (x-aa.a.length) j:=aw a;rw[b,c,nY];exact yT (h.E0 _ j) (uZ (f:=λj=>(aa.j.A (x-aa.a.length) j).den) d) (tg λj _=>(h.E0 _ j).2)
theorem c5.uj(h:c5 aa):Ms aa.j aa.cs (mm aa.a.length) (hN aa.a.length) (mS (λj=>(aa.cs j).den) aa.a.length):=by
 refine⟨u0 (λ_=>Rat.den_pos _) _,tg λj _=>(tv (q6 h j).2.2).2,λj a=>?_⟩;rw[nY];exact yT (tv (q6 h j).2.2) (uZ (f:=λj=>(aa.cs j).den) a) (tg λj _=>(tv (q6 h j).2.2).2)
theorem MA{n:Nat}:∀(d k:Nat) (w:Nat->Rat),k+d<=n->(∀j,k<=j->w j=1)->eI n ((List.range' k d).map λi j=>if i=j then(1:Rat) else 0) w=1
 | 0,_,_,_,_=>rfl
 | d+1,k,w,_,a=>by
   rw[List.range'_succ,zQ,eI,nf (j:=k) (by omega) λi _ _=>by grind,aL rfl,a k (bc _),MA d (k+1) _ (by omega) λj _=>?_]
   ·grind
   ·rw[a j (by omega),iv,aL (by omega)];grind
theorem T'(_:c5 aa):gB aa.j (e6 aa) aa.Y≠0:=by
 have e:gB aa.j (e6 aa) aa.Y=1:=by
  rw[gB,List.range_eq_range'];refine(EA (iS:=(List.range' 0 aa.j.n).map λi j=>if i=j then(1:Rat) else 0) _ (by simp) λi _ _ e b j _=>?_).trans (MA (n:=aa.j.n) aa.j.n 0 (λ_=>1) (by omega) λ_ _=>rfl);simp only[jd,xn]at e b;obtain⟨a,c,rfl⟩:=e;obtain⟨_,d,rfl⟩:=b;rw[c]at d;cases d;have d:=cX c;have b:a<aa.a.length:=by
   have:=List.mem_range'_1.1 d;have c:a<0+aa.j.n:=this.2;have c:aa.j.n=aa.a.length:=rfl;omega
  show((C.e6 aa a:Nat):Rat)*form aa.j a j=if a=j then 1 else 0
  rw[show C.e6 aa a=1 from aL b,show form aa.j a j=if a=j then 1 else 0 from aL b];have a:((1:Nat):Rat)=1:=rfl;rw[a,Rat.one_mul]
 rw[e];decide
theorem abG(h:c5 aa)(b:aa.I=true):oc aa.j (e6 aa) aa.Y:=by
 have c:∀k,k<aa.a.length->aa.Y.v k=tF (aa.j.ah k) (aa.j.up k):=λk a=>by rw[Tr a,uW a,uX a]
 refine⟨⟨abH b,T' h,λk a=>?_⟩,λk a=>?_⟩
 ·have a:k<aa.a.length:=a;show jL aa.j aa.Y.v k;unfold jL;rw[c k a];unfold tF
  cases e:aa.j.ah k with
  | some _=>grind
  | none=>
    cases d:aa.j.up k with
    | some _=>grind
    | none=>exact .inl rfl
 ·have a:k<aa.a.length:=a;show lf aa.j aa.Y.v k;unfold lf;rw[c k a];unfold tF;refine⟨λl e=>?_,λu e=>?_⟩
  ·grind
  ·cases d:aa.j.ah k with
   | none=>grind
   | some l=>exact IH b k l u d e
end
end Go.Dam.C
namespace Go.Dam.C
open Go Go.Dam
theorem Gv(n:Nat):(Lib.decDigits n).all gL=true:=by
 induction n using Nat.strongRecOn with
 | _ n ih=>
   by_cases h:n<10
   ·rw[Lib.decDigits_one h];have a:(UInt8.ofNat (48+n)).toNat=48+n:=by simp;omega
    simp[gL, ];omega
   ·rw[Lib.decDigits,dif_neg h,List.all_append,ih (n/10) (by omega)];have a:(UInt8.ofNat (48+n%10)).toNat=48+n%10:=by simp;omega
    simp[gL, ];omega
theorem V8(n:Nat):∀c,(Lib.decDigits n).head? = some c->gL c=true/\(1<=n->c≠48):=by
 induction n using Nat.strongRecOn with
 | _ n ih=>
   intro c a;refine⟨?_,λ_=>?_⟩
   ·have:=Gv n
    cases b:Lib.decDigits n with
    | nil=>grind
    | cons _ _=>
      grind
   ·by_cases h:n<10
    ·rw[Lib.decDigits_one h]at a;simp at a;rintro rfl;have:=congrArg UInt8.toNat a;simp at this;omega
    ·rw[Lib.decDigits,dif_neg h]at a;have a:=yS (n/10)
     cases b:Lib.decDigits (n/10) with
     | nil=>grind
     | cons _ _=>
       grind
theorem Gx(n:Nat):∀c∈Lib.decDigits n,c≠47/\c≠45:=by
 intro c a;have:=Gv n;rw[eA]at this;have:=this c a;constructor<;>rintro rfl<;>exact absurd this (by decide)
theorem HN(q:Rat):ik (bk q)=(decide (q<0),Lib.decDigits q.num.natAbs++if q.den=1 then[] else 47::Lib.decDigits q.den):=by
 unfold ik bk;by_cases h:q<0
 ·simp[h]
 ·have a:=yS q.num.natAbs
  cases b:Lib.decDigits q.num.natAbs with
  | nil=>grind
  | cons a _=>
    have:=(Gx q.num.natAbs a (by grind)).2;simp[h,this]
theorem Gh(q:Rat):kH (Lib.decDigits q.num.natAbs++if q.den=1 then[] else 47::Lib.decDigits q.den)=(Lib.decDigits q.num.natAbs,Lib.decDigits q.den):=by
 have a:47∉Lib.decDigits q.num.natAbs:=λh=>(Gx _ _ h).1 rfl;have b:∀c∈Lib.decDigits q.num.natAbs,(c != 47)=true:=λc b=>by simpa using(Gx _ c b).1
 unfold kH;by_cases h:q.den=1
 ·rw[h];simp[a,Lib.decDigits_one]
 simp_all
theorem xb{p q:Rat}(h:bk p=bk q):p=q:=by
 have a:=HN p;rw[h,HN q]at a;have c:decide (q<0)=decide (p<0):=congrArg Prod.fst a;have b:=congrArg Prod.snd a;simp only at b;have a:=Gh p;rw[<-b,Gh q]at a;have b:=Gw (congrArg Prod.fst a);have d:=Gw (congrArg Prod.snd a);rw[<-CE p,<-CE q,c,b,d]
@[irreducible] def bS(k:Nat):Nat:=10^k
theorem fQ(k:Nat):bS k=10^k:=by delta bS;rfl
theorem j4{a b:Nat} (h:a<=b:=by decide):bS a<=bS b:=by rw[fQ,fQ];exact hX (by decide) h
theorem JI{a b:Nat}(h:a<b):bS a<bS b:=by rw[fQ,fQ];exact Nat.pow_lt_pow_right (by decide) h
theorem As(a:Nat):1<=bS a:=by rw[fQ];grind
theorem pn{a b c:Nat}(h:a+b=c):bS a*bS b=bS c:=by rw[<-h,fQ,fQ,fQ,hG]
theorem DW(a b:Nat):bS a^b=bS (a*b):=by rw[fQ,fQ];exact(qm 10 a b).symm
theorem Pc{n:Nat}(h:n<bS 2000):ie (Lib.decDigits n)=true:=by
 have d:(Lib.decDigits n).length<=2000:=by
  rw[Lib.decDigits_length];exact zk (by rw[fQ]at h;exact h) (by decide)
 unfold ie;have d:=yS n;have c:(Nat.blt 1 (Lib.decDigits n).length&&(Lib.decDigits n).head? ==some 48)=false:=by
  cases a:(Lib.decDigits n).head? ==some 48 with
  | false=>simp
  | true=>
    have a:(Lib.decDigits n).head? = some 48:=by simpa using a
    have b:n=0:=by
     apply o3;intro b;exact(V8 n 48 a).2 (by omega) rfl
    subst b;rw[Lib.decDigits_one (by decide)];rfl
 simp only[Gv,c,Bool.and_true,Bool.not_false,bK];simp_all
theorem WS{q:Rat}(b7:q.num.natAbs<bS 2000)(cH:q.den<bS 2000):gq (bk q)=some q:=by
 unfold gq lh;rw[HN,Gh];simp only[Gu,CE];rw[aL ⟨Pc b7,Pc cH,q.den_nz,trivial⟩]
def e0:Nat:=bS 1900
theorem bI.get{q:Rat}(h:bI e0 q):gq (bk q)=some q:=by
 have a:e0<bS 2000:=JI (by decide);exact WS (dk h.1 a) (dk h.2 a)
theorem bI.rd{q:Rat}(h:bI e0 q):rd (bk q)=q:=by unfold C.rd;rw[h.get];rfl
theorem bI.isNum{q:Rat}(h:bI e0 q):isNum (bk q)=true:=by unfold C.isNum;rw[h.get];rfl
theorem bI.aV{q:Rat}(h:bI e0 q):aV q 2000:=by
 have a:e0<4294967296^2000:=fK (JI (show 1900<2000 by decide)) (by rw[fQ];exact IM 2000);exact⟨dk h.1 a,dk h.2 a⟩
theorem bI.len{q:Rat}(h:bI e0 q):(bk q).length<=10000:=by
 have a:e0<bS 2000:=JI (by decide);have b:(Lib.decDigits q.num.natAbs).length<=2000:=by rw[Lib.decDigits_length];exact zk (by rw[fQ]at a;exact dk h.1 a) (by decide)
 have b:(Lib.decDigits q.den).length<=2000:=by rw[Lib.decDigits_length];exact zk (by rw[fQ]at a;exact dk h.2 a) (by decide)
 unfold bk;grind
end Go.Dam.C
namespace Go.Dam.C
theorem zH(a b:Nat):(10^a)^b=10^(a*b):=(qm 10 a b).symm
theorem Uj{n:Nat}(a:n<=6):(n*hN n)^n<=bS 1266:=by
 have a:hN n<=10^210:=by
  unfold hN;rw[show eC*eC^n=eC^(n+1) by rw[eB,eZ],zH];exact hX (by decide) (by omega)
 have b:n*hN n<=10^211:=by
  have:n*hN n<=10*10^210:=gk (by omega) a;rwa [<-Nat.pow_succ']at this
 calc (n*hN n)^n<=(10^211)^n:=zU b n
  _=bS (211*n):=by rw[zH,fQ]
  _<=bS 1266:=j4 (h:=by omega)
theorem UL{n:Nat}(a:n<=6):mm n<=bS 180:=by
 unfold mm;rw[zH,fQ];exact hX (by decide) (by omega)
theorem EK{n:Nat}(a:n<=6):(n*hN n)^n*mm n<=bS 1446:=by
 have:=gk (Uj a) (UL a);rw[pn (show 1266+180=1446 by decide)]at this;exact this
theorem M7{n:Nat}(a:n<=6):jP n ((n*hN n)^n) (mm n) eC+eC<=bS 1660:=by
 unfold jP;have b:eC*eC^n<=bS 210:=by
  rw[show eC*eC^n=eC^(n+1) by rw[eB,eZ],zH,fQ];exact hX (by decide) (by omega)
 have c:(n*hN n)^n*mm n*(eC*eC^n)<=bS 1656:=by
  have:=gk (EK a) b;rw[pn (show 1446+210=1656 by decide)]at this;exact this
 have b:n*((n*hN n)^n*mm n*(eC*eC^n))<=6*bS 1656:=gk a c;have a:eC<=bS 1656:=by rw[show eC=bS 30 from(fQ 30).symm];exact j4
 have a:bS 1660=10000*bS 1656:=by rw[<-pn (show 4+1656=1660 by decide),fQ 4]
 grind
theorem bI.mono{a b:Nat}{q:Rat}(h:bI a q)(c:a<=b):bI b q:=⟨a8 h.1 c,a8 h.2 c⟩
section
variable{aa:ar}{T:bu}
theorem hv.ud(h:c5 aa)(a:hv aa.j (e6 aa) T){x:Nat}(b:x<aa.a.length+aa.rows.length):bI (bS 1660) (T.v x):=
 (a.JR h.e6 h.uY b).mono (M7 h.n)
theorem hv.yr(h:c5 aa)(a:hv aa.j (e6 aa) T){i k:Nat}(b:i<aa.rows.length)(av:k<aa.a.length):bI (bS 1446) (T.M i k):=
 (UC h.e6 a.inv a.sR b av).mono (EK h.n)
theorem hv.Nq(h:c5 aa)(a:hv aa.j (e6 aa) T){k:Nat}(av:k<aa.a.length):bI (bS 1446) (red aa.j aa.cs T k):=
 (aaE h.e6 a.inv a.sR h.uj.p h.uj.le h.uj.z av).mono (EK h.n)
theorem me{k:Nat}{q:Rat}(h:bI (bS k) q) (av:k<=1900:=by decide):bI e0 q:=h.mono (j4 (h:=av))
theorem MB{q:Rat}(h:bI eC q):bI e0 q:=h.mono (by rw[show eC=bS 30 from(fQ 30).symm];exact j4)
theorem hv.Th(h:c5 aa)(a:hv aa.j (e6 aa) T):js aa.j T 2000 where
 v:=λx b=>⟨λl e=>(MB (h.uY.ah x l e)).aV,λl e=>(MB (h.uY.up x l e)).aV,(me (a.ud h b)).aV⟩
 M:=λ_ _ b c=>(me (a.yr h b c)).aV
theorem hv.strs(h:c5 aa)(b:hv aa.j (e6 aa) T):jO (il aa T):=by
 refine⟨?_,λ_ c=>?_⟩
 ·have:=h.n;simp only[il,rU,xf];show aa.a.length<_;omega
 ·obtain⟨j,a,rfl⟩:=gl.1 c;have a:j<aa.a.length:=o6.1 a;exact(me (b.ud h (by omega))).len
theorem runs(h:c5 aa)(b:aa.I=true):x' aa (oc aa.j (e6 aa)) (nq aa.j (e6 aa)) 2000 where
 t1:=by decide
 xR:=by decide
 s1:=abG h b
 g1:=λT a=>⟨a.1.inv,a.1.Th h,Wx (IH b) a.1.inv a.2⟩
 cw:=λT c a e=>a.next h.e6.pos (IH b) e
 s2:=λT a e=>a.two e
 g2:=λT a=>⟨a.1.inv,a.1.Th h,a.ends h.e6 h.uY h.uj⟩
 gg:=λT c a e=>a.next h.e6.pos e
 D2:=λT a=>a.1.strs h
end
section
variable{aa:ar}
def xy(a:Int)(s b:Rat):Prop:=(a=1->s<=b)/\(a=3->b<=s)/\(a≠1->a≠3->s=b)
def gz(aa:ar)(x:Nat->Rat)(i:Nat):Rat:=aS (λj=>aa.j.A i j*x j) aa.a.length
theorem Cl{a:Int}{s b:Rat}:pY a (iF s b)=true↔xy a s b:=by
 by_cases c:a=1
 ·rw[show pY a (iF s b)=decide (iF s b<=0) from aL c,cP];constructor
  ·intro h;refine⟨λ_=>fy.1 λd=>?_,λ_=>by omega,λh=>absurd c h⟩;rw[<-nz s b]at d;omega
  ·rintro⟨_,_⟩;refine Int.not_lt.1 λb=>?_;rw[nz]at b;grind
 ·by_cases d:a=3
  ·rw[show pY a (iF s b)=decide (0<=iF s b) from(aw c).trans (aL d),cP];constructor
   ·intro h;refine⟨λh=>absurd h c,λ_=>fy.1 λe=>?_,λ_ h=>absurd d h⟩;rw[<-kb s b]at e;omega
   ·rintro⟨_,_,_⟩;refine Int.not_lt.1 λb=>?_;rw[kb]at b;grind
  ·rw[show pY a (iF s b)=decide (iF s b=0) from(aw c).trans (aw d),cP,cmp_eq];exact⟨λh=>⟨λe=>absurd e c,λe=>absurd e d,λ_ _=>h⟩,λh=>h.2.2 c d⟩
theorem S0(q:Rat):cg q=iF q 0:=rfl
theorem Pv{c:a1}{q:Rat}:oL c q=true↔(c.low≠[]->rd c.low<=q)/\(c.up≠[]->q<=rd c.up):=by
 unfold oL;rw[<-fy,<-fy];cases a:c.low<;>cases b:c.up<;>simp
structure h4(aa:ar)(x:Nat->Rat):Prop where
 c:∀j,j<aa.a.length->((aa.ad j).low≠[]->rd (aa.ad j).low<=x j)/\((aa.ad j).up≠[]->x j<=rd (aa.ad j).up)
 r:∀i,i<aa.rows.length->xy (aa.row i).kind (gz aa x i) (rd (aa.row i).rhs)
theorem Nf{p:b9->Bool}:aa.rows.all p=true↔∀i,i<aa.rows.length->p (aa.row i)=true:=by
 rw[eA];constructor
 ·intro h i a;exact h _ (cX (ar.rowAt a))
 ·intro h _ b;obtain⟨i,a,rfl⟩:=tp b;have:=h i a;have e:=ar.rowAt a;grind
theorem y4(a:aa.I=true){x:Nat->Rat}:y3 aa x=true↔h4 aa x:=by
 unfold y3;rw[bK,Gb,Nf];constructor
 ·rintro⟨b,c⟩;refine⟨λj d=>Pv.1 (b j d),λi b=>?_⟩;have:=c i b;unfold vc at this;rw[yY a b]at this;exact Cl.1 this
 ·rintro⟨b,c⟩;refine⟨λj d=>Pv.2 (b j d),λi b=>?_⟩;unfold vc;rw[yY a b];exact Cl.2 (c i b)
structure MM(aa:ar)(d:Nat->Rat)(s q:Rat)(k:Nat):Prop where
 ok:∀j,j<k->d j≠0->(if d j<0 then(aa.ad j).up else(aa.ad j).low)≠[]
 sum:q=s+aS (λj=>d j*rd (if d j<0 then(aa.ad j).up else(aa.ad j).low)) k
theorem Cu{d:Nat->Rat}{s:Rat}:∀{k:Nat} {q:Rat},jz aa d s k=some q↔MM aa d s q k
 | 0,q=>by
   simp only[jz,aJ];constructor
   ·rintro rfl;exact⟨λ_ a=>absurd a (gS _),by simp[aS,lB]⟩
   ·rintro⟨_,h⟩;rw[h];simp[aS,lB]
 | k+1,q=>by
   rw[jz];have a:∀(h:¬(d k≠0/\(if d k<0 then(aa.ad k).up else(aa.ad k).low).isEmpty=true)),rv (aa.ad k) (d k)=some (d k*rd (if d k<0 then(aa.ad k).up else(aa.ad k).low)):=λh=>aw h;constructor
   ·intro h
    cases e:jz aa d s k with
    | none=>grind
    | some _=>
      rw[e]at h;simp only at h;obtain⟨_,c⟩:=Cu.1 e;by_cases b:d k≠0/\(if d k<0 then(aa.ad k).up else(aa.ad k).low).isEmpty=true
      ·rw[show rv (aa.ad k) (d k)=none from aL b]at h;cases h
      ·rw[a b]at h;simp only[aJ]at h;refine⟨λ_ _ _=>?_,?_⟩
       ·grind
       ·rw[aS,<-h,c];grind
   ·rintro⟨b,c⟩;have e:jz aa d s k=some (s+aS (λj=>d j*rd (if d j<0 then(aa.ad j).up else(aa.ad j).low)) k):=Cu.2 ⟨λj _=>b j (by omega),rfl⟩;rw[e];simp only;have e:¬(d k≠0/\(if d k<0 then(aa.ad k).up else(aa.ad k).low).isEmpty=true):=by
     rintro⟨d,f⟩;exact b k (by omega) d (by simpa using f)
    rw[a e];simp only[aJ];rw[c,aS];grind
def gb(aa:ar)(bQ:Bool)(y:Nat->Rat)(j:Nat):Rat:=d0 aa bQ j-aS (λi=>y i*aa.j.A i j) aa.rows.length
structure lJ(aa:ar)(bQ:Bool)(y:Nat->Rat)(b:Rat):Prop where
 iv:∀i,i<aa.rows.length->((aa.row i).kind=1->y i<=0)/\((aa.row i).kind=3->0<=y i)
 ls:MM aa (gb aa bQ y) (aS (λi=>y i*rd (aa.row i).rhs) aa.rows.length) b aa.a.length
theorem SZ{y:Nat->Rat}{i:Nat}:xF aa y i=true↔((aa.row i).kind=1->y i<=0)/\((aa.row i).kind=3->0<=y i):=by
 unfold xF;grind
theorem yu(a:aa.I=true){bQ:Bool}{y:Nat->Rat}{b:Rat}:ue aa bQ y=some b↔lJ aa bQ y b:=by
 have e:q8 aa bQ y aa.rows.length=gb aa bQ y:=by
  funext j;exact Ol a (bc _) j
 unfold ue;rw[e];constructor
 ·intro h;split at h
  ·rename_i c;exact⟨λi b=>SZ.1 (DL.1 c i b),Cu.1 h⟩
  ·cases h
 ·rintro⟨b,d⟩;rw[aL (DL.2 λi f=>SZ.2 (b i f))];exact Cu.2 d
theorem Gd(bQ:Bool)(y x:Nat->Rat):aS (λj=>d0 aa bQ j*x j) aa.a.length=aS (λj=>gb aa bQ y j*x j) aa.a.length+aS (λi=>y i*gz aa x i) aa.rows.length:=by
 have a:aS (λi=>y i*gz aa x i) aa.rows.length=aS (λj=>aS (λi=>y i*aa.j.A i j) aa.rows.length*x j) aa.a.length:=by
  have:aS (λi=>y i*gz aa x i) aa.rows.length=aS (λi=>aS (λj=>y i*aa.j.A i j*x j) aa.a.length) aa.rows.length:=c9 λi _=>by
   rw[gz,<-fP];grind
  rw[this,Aq];refine c9 λj _=>?_;have:aS (λi=>y i*aa.j.A i j*x j) aa.rows.length=aS (λi=>x j*(y i*aa.j.A i j)) aa.rows.length:=c9 λi _=>by grind
  rw[this,fP,nY]
 rw[a,<-kr];exact c9 λj _=>by unfold gb;grind
theorem Gi(bQ:Bool)(x:Nat->Rat):aS (λj=>d0 aa bQ j*x j) aa.a.length=if bQ then aa.P x else 0:=by
 cases bQ with
 | true=>rfl
 | false=>exact ng λj _=>by simp[d0]
theorem Az{bQ:Bool}{x y:Nat->Rat}{b:Rat}(e:h4 aa x)(c:lJ aa bQ y b):b<=if bQ then aa.P x else 0:=by
 rw[<-Gi,Gd bQ y x,c.ls.sum];have b:aS (λi=>y i*rd (aa.row i).rhs) aa.rows.length<=aS (λi=>y i*gz aa x i) aa.rows.length:=Ar λi b=>by
  obtain⟨d,f,_⟩:=e.r i b;obtain⟨g,h⟩:=c.iv i b;by_cases a:(aa.row i).kind=1
  ·have b:=d a;have b:=g a;have:=fW (show 0<=-y i by grind) (show 0<=rd (aa.row i).rhs-gz aa x i by grind);grind
  ·by_cases a:(aa.row i).kind=3
   ·have b:=f a;have b:=h a;have:=fW b (show 0<=gz aa x i-rd (aa.row i).rhs by grind);grind
   grind
 have b:aS (λj=>gb aa bQ y j*rd (if gb aa bQ y j<0 then(aa.ad j).up else(aa.ad j).low)) aa.a.length<=aS (λj=>gb aa bQ y j*x j) aa.a.length:=Ar λj b=>by
  obtain⟨_,_⟩:=e.c j b;have a:=c.ls.ok j b;generalize gb aa bQ y j=d at*
  by_cases f:d=0
  ·simp_all
  ·have a:=a f;by_cases b:d<0
   ·simp only[b,if_true]at a|-;have:=fW (show 0<=-d by grind) (show 0<=rd (aa.ad j).up-x j by grind);grind
   ·simp only[b,if_false]at a|-;have:=fW (show 0<=d by grind) (show 0<=x j-rd (aa.ad j).low by grind);grind
 grind
structure om(aa:ar)(x:Nat->Rat):Prop where
 c:∀j,j<aa.a.length->((aa.ad j).low≠[]->0<=x j)/\((aa.ad j).up≠[]->x j<=0)
 r:∀i,i<aa.rows.length->xy (aa.row i).kind (gz aa x i) 0
 n:aa.P x<0
theorem z7(a:aa.I=true){x:Nat->Rat}:xt aa x=true↔om aa x:=by
 have b:∀{c:a1} {q:Rat},mY c q=true↔(c.low≠[]->0<=q)/\(c.up≠[]->q<=0):=λ{c q}=>by
  unfold mY;rw[<-fy,<-fy];cases d:c.low<;>cases e:c.up<;>simp
 unfold xt;rw[bK,bK,I',Nf,cP];constructor
 ·rintro⟨c,d,e⟩;refine⟨λj f=>b.1 (c j f),λi c=>?_,e⟩;have:=d i c;unfold tx at this;rw[yY a c,S0]at this;exact Cl.1 this
 ·rintro⟨c,d,e⟩;refine⟨λj f=>b.2 (c j f),λi b=>?_,e⟩;unfold tx;rw[yY a b,S0];exact Cl.2 (d i b)
theorem wS{x y:Nat->Rat}{b:Rat}(c:om aa x)(e:lJ aa true y b):False:=by
 have b:=c.n;have f:=Gi (aa:=aa) true x;simp only[if_true]at f;rw[<-f,Gd true y x]at b;have f:0<=aS (λi=>y i*gz aa x i) aa.rows.length:=JF λi f=>by
  obtain⟨d,g,_⟩:=c.r i f;obtain⟨h,k⟩:=e.iv i f;by_cases a:(aa.row i).kind=1
  ·have f:=d a;have d:=h a;have:=fW (show 0<=-y i by grind) (show 0<=-gz aa x i by grind);grind
  ·by_cases a:(aa.row i).kind=3
   ·exact fW (k a) (g a)
   simp_all
 have f:0<=aS (λj=>gb aa true y j*x j) aa.a.length:=JF λj f=>by
  obtain⟨g,_⟩:=c.c j f;have a:=e.ls.ok j f;generalize gb aa true y j=d at*
  by_cases h:d=0
  ·simp_all
  ·have a:=a h;by_cases b:d<0
   ·simp only[b,if_true]at a;have:=fW (show 0<=-d by grind) (show 0<=-x j by grind);grind
   ·simp only[b,if_false]at a;exact fW (show 0<=d by grind) (g a)
 grind
end
section
variable{aa:ar}
theorem CN{xs:List (List UInt8)}{m:Nat}(h:dJ aa xs m=true):aa.I=true:=by
 unfold dJ at h;grind
inductive Shown(aa:ar)(a:cW):Prop
 | opt (x y:Nat->Rat) (b:Rat):a.st=1->h4 aa x->lJ aa true y b->aa.P x=b->a.val=bk b->Shown aa a
 | inf (y:Nat->Rat) (b:Rat):a.st=2->lJ aa false y b->0<b->a.val=[]->Shown aa a
 | cB (x r:Nat->Rat):a.st=3->h4 aa x->om aa r->a.val=[]->Shown aa a
theorem uv(a:aa.I=true){xs:List (List UInt8)}(h:fU aa xs=true):h4 aa (bU xs):=by
 unfold fU at h;rw[bK]at h;exact(y4 a).1 h.2
theorem vQ(c:aa.I=true){a:List (List UInt8)}{bQ:Bool}{b:Rat}(h:eX aa a bQ=some b):lJ aa bQ (bU a) b:=by
 unfold eX at h;split at h
 ·exact(yu c).1 h
 ·cases h
theorem F8{a:cW}(h:ga aa a=true):aa.I=true/\Shown aa a:=by
 unfold ga at h;split at h
 ·rename_i j;simp only[bK,cP]at h;obtain⟨k,l,f,d,b,_⟩:=h;obtain⟨v,c⟩:=n0.1 k;obtain⟨g,i⟩:=n0.1 l;have e:aa.I=true:=by
   unfold fU at b;rw[bK]at b;exact CN b.1
  rw[c]at f;rw[i]at d;have h:v=g:=xb (f.trans d.symm);have m:aa.P (bU a.x)=v:=by
   unfold gy at c;split at c
   ·grind
   ·cases c
  exact⟨e,.opt _ _ g j (uv e b) (vQ e i) (m.trans h) d.symm⟩
 ·split at h
  ·rename_i n;simp only[bK,cP]at h;obtain⟨f,a,g,_⟩:=h;obtain⟨b,c⟩:=n0.1 f;have d:aa.I=true:=by
    have:=c;unfold eX at this;split at this
    ·exact CN (by assumption)
    ·cases this
   have h:0<b:=by
    rw[c]at a;have a:0<rd (bk b):=a;unfold rd at a
    cases e:gq (bk b) with
    | none=>grind
    | some q=>
      rw[e]at a;have a:0<q:=a;have:bk q=bk b:=by
       unfold gq lh at e;split at e
       ·grind
       ·cases e
      rw[<-xb this];exact a
   exact⟨d,.inf _ b n (vQ d c) h g⟩
  ·split at h
   ·rename_i o;simp only[bK,cP]at h;obtain⟨c,a,d,_⟩:=h;have b:aa.I=true:=by
     have:=c;unfold fU at this;rw[bK]at this;exact CN this.1
    unfold iL at a;rw[bK]at a;exact⟨b,.cB _ _ o (uv b c) ((z7 b).1 a.2) d⟩
   ·cases h
end
section
variable{aa:ar}{T:bu}{P:bM}
def ind(a b:Nat):Rat:=if a=b then 1 else 0
def h8(P:bM)(T:bu)(e:Nat->Rat)(x:Nat):Rat:=aS (λk=>e k*ind (T.a k) x) P.n
theorem O7{x j:Nat}(a:x<P.n+P.m)(a:j<P.n):form P x j=ind x j+aS (λi=>ind x (P.n+i)*P.A i j) P.m:=by
 unfold form ind;by_cases h:x<P.n
 ·rw[aL h,ng λi _=>by grind,lB]
 ·rw[aw h,aw (by omega),nf (j:=x-P.n) (by omega) λi _ _=>by grind,aL (by omega)];grind
theorem TH(h:dT P T)(e:Nat->Rat){j:Nat}(a:j<P.n):aS (λk=>e k*form P (T.a k) j) P.n=h8 P T e j+aS (λi=>h8 P T e (P.n+i)*P.A i j) P.m:=by
 have b:aS (λi=>h8 P T e (P.n+i)*P.A i j) P.m=aS (λk=>aS (λi=>e k*ind (T.a k) (P.n+i)*P.A i j) P.m) P.n:=by
  rw[Aq];refine c9 λi _=>?_;have:=fP (P.A i j) (λk=>e k*ind (T.a k) (P.n+i)) P.n;rw[h8,nY,<-this];exact c9 λk _=>by grind
 rw[b,h8,<-kr];refine c9 λk b=>?_;rw[O7 (h.c k b) a];have:=fP (e k) (λi=>ind (T.a k) (P.n+i)*P.A i j) P.m;grind
theorem UO(h:dT P T)(e:Nat->Rat){k:Nat}(av:k<P.n):h8 P T e (T.a k)=e k:=by
 rw[h8,nf (j:=k) av λi a b=>by rw[ind,aw λe=>b (h.ci i k a av e),mX],ind,aL rfl,Rat.mul_one]
theorem Na{e:Nat->Rat}{x:Nat}(a:∀k,k<P.n->T.a k≠x):h8 P T e x=0:=ng λk b=>by rw[ind,aw (a k b),mX]
theorem Bg(h:dT P T)(e:Nat->Rat)(x:Nat):(∃k,k<P.n/\T.a k=x/\h8 P T e x=e k)∨((∀k,k<P.n->T.a k≠x)/\h8 P T e x=0):=by
 by_cases a:∃k,k<P.n/\T.a k=x
 ·obtain⟨k,b,rfl⟩:=a;exact .inl ⟨k,b,rfl,UO h e b⟩
 ·exact .inr ⟨λk b e=>a ⟨k,b,e⟩,Na λk b e=>a ⟨k,b,e⟩⟩
def want(P:bM)(w:Rat)(x:Nat):Option Rat:=if w<0 then P.up x else P.ah x
theorem cert(_:aa.I=true){bQ:Bool}{y W β:Nat->Rat}(e:∀i,i<aa.rows.length->y i=W (aa.a.length+i))(f:∀j,j<aa.a.length->gb aa bQ y j=W j)(c:∀x,x<aa.a.length+aa.rows.length->W x≠0->want aa.j (W x) x=some (β x)):
 lJ aa bQ y (aS (λi=>W (aa.a.length+i)*β (aa.a.length+i)) aa.rows.length+aS (λj=>W j*β j) aa.a.length):=by
 refine⟨λi d=>?_,λj b h=>?_,?_⟩
 ·have a:=c (aa.a.length+i) (by omega);rw[e i d];generalize W (aa.a.length+i)=w at a;refine⟨λj=>fy.1 λg=>?_,λk=>fy.1 λg=>?_⟩
  ·have:=a (by grind);rw[want,aw (by grind),w6,aL j]at this;cases this
  ·have:=a (by grind);rw[want,aL g,w7,aL k]at this;cases this
 ·have a:=c j (by omega);rw[f j b]at h|-;have a:=a h;unfold want at a;split at a
  ·rename_i l;rw[aL l];rw[uX b]at a;exact(r3 a).1
  ·rename_i m;rw[aw m];rw[uW b]at a;exact(r3 a).1
 ·congr 1
  ·refine c9 λi d=>?_;rw[e i d];have a:=c (aa.a.length+i) (by omega);generalize W (aa.a.length+i)=w at a;by_cases g:w=0
   ·grind
   ·have a:=a g;unfold want at a;rw[w6,w7]at a;have:rd (aa.row i).rhs=β (aa.a.length+i):=by
     split at a
     ·split at a
      ·cases a
      ·exact(r3 a).2.symm
     ·split at a
      ·cases a
      ·exact(r3 a).2.symm
    rw[this]
  ·refine c9 λj b=>?_;rw[f j b];have a:=c j (by omega);generalize W j=w at a;by_cases g:w=0
   ·grind
   ·have a:=a g;unfold want at a;rw[uW b,uX b]at a;split at a
    ·rename_i n;rw[aL n,(r3 a).2]
    ·rename_i o;rw[aw o,(r3 a).2]
theorem Ni{w:Rat}{x:Nat}{v:Nat->Rat}(aP:w≠0)(a:can P v x (-cg w)=false)(b:lf P v x):want P w x=some (v x):=by
 unfold want
 rcases jg aP with⟨h,e⟩ | ⟨h,e⟩<;>rw[e]at a
 ·rw[aw (by grind)];obtain⟨l,c,_⟩:=BF (by decide) a;have:=b.1 l c;grind
 ·rw[aL h];obtain⟨l,c,_⟩:=BG (by decide) a;have:=b.2 l c;grind
theorem Mq(h:Inv aa.j T){i:Nat}(a:i<aa.rows.length):gz aa T.v i=T.v (aa.a.length+i):=(h.val i a).symm
theorem M9(h:Inv aa.j T){bQ:Bool}{y W:Nat->Rat}(b:∀i,i<aa.rows.length->y i=W (aa.a.length+i))(a:∀j,j<aa.a.length->gb aa bQ y j=W j):
 aS (λi=>W (aa.a.length+i)*T.v (aa.a.length+i)) aa.rows.length+aS (λj=>W j*T.v j) aa.a.length=if bQ then aa.P T.v else 0:=by
 rw[<-Gi,Gd bQ y T.v,Rat.add_comm];congr 1
 ·exact c9 λj c=>by rw[a j c]
 ·exact c9 λi a=>by rw[b i a,Mq h a]
theorem Z4(g:aa.I=true)(h:Inv aa.j T)(l:oa aa.j T)(m:enters aa.j aa.cs T=none){y:Nat->Rat}(a:∀i,i<aa.rows.length->y i=h8 aa.j T (red aa.j aa.cs T) (aa.a.length+i)):lJ aa true y (aa.P T.v):=by
 have d:∀j,j<aa.a.length->gb aa true y j=h8 aa.j T (red aa.j aa.cs T) j:=λj e=>by
  have k:=O4 (c:=aa.cs) h (j:=j) e;rw[TH h.B (red aa.j aa.cs T) e]at k;have e:aS (λi=>y i*aa.j.A i j) aa.rows.length=aS (λi=>h8 aa.j T (red aa.j aa.cs T) (aa.j.n+i)*aa.j.A i j) aa.j.m:=c9 λi k=>by rw[a i k];rfl
  unfold gb;rw[e];show aa.cs j-_=_;grind
 have f:=cert g (bQ:=true) (β:=T.v) a d λx n b=>by
  rcases Bg h.B (red aa.j aa.cs T) x with⟨k,av,fr,cA⟩ | ⟨_,cA⟩
  ·rw[cA]at b|-;have:=yo m k av;simp only[Bool.and_eq_false_iff,decide_eq_false_iff_not]at this;rw[<-fr];exact Ni b (this.resolve_left λh=>h b) (l _ (by rw[fr];exact n))
  grind
 rw[M9 h (bQ:=true) a d]at f;exact f
theorem oa.fits(g:aa.I=true)(h:Inv aa.j T)(a:oa aa.j T):h4 aa T.v:=by
 refine⟨λj b=>?_,λi c=>?_⟩
 ·obtain⟨d,f⟩:=a j (show j<aa.a.length+aa.rows.length by omega);rw[uW b]at d;rw[uX b]at f;exact⟨λe=>d _ (by rw[fl,aw e]),λe=>f _ (by rw[fl,aw e])⟩
 ·obtain⟨b,d⟩:=a (aa.a.length+i) (show aa.a.length+i<aa.a.length+aa.rows.length by omega);rw[w6]at b;rw[w7]at d;rw[Mq h c];have a:isNum (aa.row i).rhs=true:=by
   have:=Cy g c;simp only[iM,bK]at this;exact this.2.1
  have c:(aa.row i).rhs≠[]:=by
   intro e;rw[e]at a;simp[isNum,za]at a
  have a:fl (aa.row i).rhs=some (rd (aa.row i).rhs):=by rw[fl,aw c]
  refine⟨λc=>d _ (by rw[aw (by omega)];exact a),λd=>b _ (by rw[aw (by omega)];exact a),λc d=>?_⟩;grind
end
section
variable{aa:ar}{T:bu}{P:bM}
def hM(P:bM)(T:bu)(a x:Nat):Rat:=(off P T.v (T.rows a):Rat)*ind (T.rows a) x+h8 P T (j3 P T a) x
theorem Jw{a k:Nat}(b:off P T.v (T.rows a)≠0):j3 P T a k=-((off P T.v (T.rows a):Rat)*T.M a k):=by
 unfold j3
 rcases uP b with e | e<;>rw[e]
 ·simp
 ·simp;grind
theorem D'{a:Nat}(h:dT P T)(aI:a<P.m):hM P T a (T.rows a)=(off P T.v (T.rows a):Rat):=by
 rw[hM,Na λk b e=>h.rc a k aI b e.symm,ind,aL rfl,Rat.mul_one,lB]
theorem JW{a x:Nat}(b:x≠T.rows a):hM P T a x=h8 P T (j3 P T a) x:=by
 rw[hM,ind,aw (Ne.symm b),mX,De]
def sL(P:bM)(T:bu)(a x:Nat):Rat:=if x=T.rows a then goal P (T.rows a) (off P T.v (T.rows a)) else T.v x
def pR(P:bM)(T:bu)(a:Nat):Rat:=(off P T.v (T.rows a):Rat)*(goal P (T.rows a) (off P T.v (T.rows a))-T.v (T.rows a))
theorem VZ{a:Nat}(b:off P T.v (T.rows a)≠0):0<pR P T a:=by
 unfold pR goal
 rcases tc b with⟨e,l,aY,h⟩ | ⟨e,l,aY,h⟩<;>rw[e]
 ·rw[aw (by decide),aY];simp;grind
 grind
theorem W8(u:aa.I=true)(h:Inv aa.j T)(m:tS aa.j T){a:Nat}(q:lH aa.j T=some a)(v:lU aa.j T a (off aa.j T.v (T.rows a))=none){y:Nat->Rat}(o:∀i,i<aa.rows.length->y i=hM aa.j T a (aa.a.length+i)):lJ aa false y (pR aa.j T a):=by
 obtain⟨n,d,_⟩:=j' q;have d:off aa.j T.v (T.rows a)≠0:=by simpa using d
 have p:=h.B.r a n;have s:∀j,j<aa.a.length->gb aa false y j=hM aa.j T a j:=λj q=>by
  have b:=TH h.B (j3 aa.j T a) (j:=j) q;have g:=O7 (P:=aa.j) p (j:=j) q;have t:=GS h n (j:=j) q;have e:aS (λk=>j3 aa.j T a k*form aa.j (T.a k) j) aa.j.n=-((off aa.j T.v (T.rows a):Rat)*form aa.j (T.rows a) j):=by
   have:=fP (-(off aa.j T.v (T.rows a):Rat)) (λk=>T.M a k*form aa.j (T.a k) j) aa.j.n;rw[t];rw[show -((off aa.j T.v (T.rows a):Rat)*aS (λk=>T.M a k*form aa.j (T.a k) j) aa.j.n)=-(off aa.j T.v (T.rows a):Rat)*aS (λk=>T.M a k*form aa.j (T.a k) j) aa.j.n by grind,<-this];exact c9 λk _=>by rw[Jw d];grind
  have f:aS (λi=>y i*aa.j.A i j) aa.rows.length=(off aa.j T.v (T.rows a):Rat)*aS (λi=>ind (T.rows a) (aa.j.n+i)*aa.j.A i j) aa.j.m+aS (λi=>h8 aa.j T (j3 aa.j T a) (aa.j.n+i)*aa.j.A i j) aa.j.m:=by
   rw[<-fP,<-kr];refine c9 λi h=>?_;rw[o i h];show hM aa.j T a (aa.j.n+i)*_=_;unfold hM;grind
  unfold gb;rw[f];show(0:Rat)-_=_;rw[hM];rw[e]at b;rw[g]at b;grind
 have q:=cert u (bQ:=false) (β:=sL aa.j T a) o s λx r c=>by
  by_cases e:x=T.rows a
  ·subst e;rw[D' h.B n]at c|-;unfold sL goal want;rw[aL rfl]
   rcases tc d with⟨e,l,aY,_⟩ | ⟨e,l,aY,_⟩<;>rw[e]
   ·rw[aw (by decide),aw (by decide),aY];rfl
   ·rw[aL (by decide),aL (by decide),aY];rfl
  ·rw[JW e]at c|-;unfold sL;rw[aw e]
   rcases Bg h.B (j3 aa.j T a) x with⟨k,av,b,g⟩ | ⟨_,g⟩
   ·rw[g]at c|-;have i:=yo v k av;simp only[Bool.and_eq_false_iff,decide_eq_false_iff_not]at i;rw[<-b];have f:T.M a k≠0:=by
     intro f;rw[Jw d,f]at c;exact c (by grind)
    have i:=i.resolve_left λh=>h f;refine Ni c ?_ (m k av);have:-cg (j3 aa.j T a k)=off aa.j T.v (T.rows a)*cg (T.M a k):=by
     rw[Jw d]
     rcases uP d with e | e<;>rw[e]
     ·rcases jg f with⟨b7,b⟩ | ⟨b7,b⟩<;>rw[b]
      ·have:cg (-(((1:Int):Rat)*T.M a k))=-1:=by unfold cg;rw[aL (by simp;grind)]
       rw[this];rfl
      ·have:cg (-(((1:Int):Rat)*T.M a k))=1:=by unfold cg;rw[aw (by simp;grind),aw (by simp;grind)]
       rw[this];rfl
     ·rcases jg f with⟨b7,b⟩ | ⟨b7,b⟩<;>rw[b]
      ·have:cg (-(((-1:Int):Rat)*T.M a k))=1:=by unfold cg;rw[aw (by simp;grind),aw (by simp;grind)]
       rw[this];rfl
      ·have:cg (-(((-1:Int):Rat)*T.M a k))=-1:=by unfold cg;rw[aL (by simp;grind)]
       rw[this];rfl
    rw[this];exact i
   ·exact absurd g c
 have c:=M9 h (bQ:=false) o s;simp only[kl,if_false]at c;have r:∀x,hM aa.j T a x*sL aa.j T a x=hM aa.j T a x*T.v x+pR aa.j T a*ind (T.rows a) x:=λx=>by
  by_cases e:x=T.rows a
  ·subst e;rw[D' h.B n];unfold sL ind pR;rw[aL rfl,aL rfl];grind
  ·unfold sL ind;rw[aw e,aw (Ne.symm e)];grind
 have b:aS (λi=>hM aa.j T a (aa.a.length+i)*sL aa.j T a (aa.a.length+i)) aa.rows.length=aS (λi=>hM aa.j T a (aa.a.length+i)*T.v (aa.a.length+i)) aa.rows.length+pR aa.j T a*aS (λi=>ind (T.rows a) (aa.a.length+i)) aa.rows.length:=by
  rw[<-fP,<-kr];exact c9 λi _=>r _
 have g:aS (λj=>hM aa.j T a j*sL aa.j T a j) aa.a.length=aS (λj=>hM aa.j T a j*T.v j) aa.a.length+pR aa.j T a*aS (λj=>ind (T.rows a) j) aa.a.length:=by
  rw[<-fP,<-kr];exact c9 λi _=>r _
 have p:T.rows a<aa.a.length+aa.rows.length:=p;have t:aS (λi=>ind (T.rows a) (aa.a.length+i)) aa.rows.length+aS (λj=>ind (T.rows a) j) aa.a.length=1:=by
  by_cases b:T.rows a<aa.a.length
  ·rw[ng (f:=λi=>ind (T.rows a) (aa.a.length+i)) λi _=>by show ind _ _=0;rw[ind,aw (by omega)],nf (f:=λj=>ind (T.rows a) j) b λi _ m=>by show ind _ _=0;rw[ind,aw (Ne.symm m)]];show 0+ind _ _=1;rw[ind,aL rfl,De]
  ·rw[nf (f:=λi=>ind (T.rows a) (aa.a.length+i)) (j:=T.rows a-aa.a.length) (by omega) λi _ m=>by show ind _ _=0;rw[ind,aw (by omega)],ng (f:=λj=>ind (T.rows a) j) λi _=>by show ind _ _=0;rw[ind,aw (by omega)]];show ind _ _+0=1;rw[ind,aL (by omega),lB]
 grind
theorem Wf(h:dT P T){ad:Nat}{aM:Int}(d:ad<P.n)(e:aM=1∨aM=-1)(g:(dW P T ad aM P.m).e4=none){x:Nat}(j:x<P.n+P.m):(0<iH P T ad aM x->P.up x=none)/\(iH P T ad aM x<0->P.ah x=none):=by
 obtain⟨f,l⟩:=(Ct P T ad aM P.m).zq g;have b:∀{x:Nat} {w:Int},room P T.v x w=none->(w=1->P.up x=none)/\(w=-1->P.ah x=none):=λ{x w} a=>by
  constructor
  ·rintro rfl
   cases c:P.up x with
   | none=>rfl
   | some _=>rw[Dw c]at a;cases a
  ·rintro rfl
   cases c:P.ah x with
   | none=>rfl
   | some _=>rw[Dv c]at a;cases a
 rcases h.jQ x j with⟨i,az,rfl⟩ | ⟨k,av,rfl⟩
 ·rw[wb h d az];by_cases c:T.M i ad=0
  ·simp_all
  ·have a:=l i az c;have g:=lg c;rw[nY]
   rcases xG e c with⟨fr,cA⟩ | ⟨fr,cA⟩<;>rw[cA]
   ·exact⟨λ_=>(b a).1 fr,λh=>by grind⟩
   grind
 ·rw[pT h d av];by_cases c:k=ad
  ·subst c;rw[aL rfl]
   rcases e with rfl | rfl
   ·exact⟨λ_=>(b f).1 rfl,λh=>absurd h (by decide)⟩
   ·exact⟨λh=>absurd h (by decide),λ_=>(b f).2 rfl⟩
  grind
theorem acd(l:aa.I=true)(h:Inv aa.j T){ad:Nat}(d:enters aa.j aa.cs T=some ad)(f:(dW aa.j T ad (eF aa.j aa.cs T ad) aa.j.m).e4=none):om aa (iH aa.j T ad (eF aa.j aa.cs T ad)):=by
 obtain⟨a,b,_⟩:=j' d;simp only[bK,cP]at b;have g:eF aa.j aa.cs T ad=1∨eF aa.j aa.cs T ad=-1:=by
  unfold eF
  rcases jg b.1 with⟨_,e⟩ | ⟨_,e⟩<;>rw[e]<;>simp
 have d:=λx i=>Wf h.B a g f (x:=x) i;refine⟨λj f=>?_,λi g=>?_,?_⟩
 ·obtain⟨h,k⟩:=d j (show j<aa.a.length+aa.rows.length by omega);rw[uX f]at h;rw[uW f]at k;exact⟨λe=>fy.1 λc=>e (JK.1 (k c)),λe=>fy.1 λc=>e (JK.1 (h c))⟩
 ·obtain⟨c,f⟩:=d (aa.a.length+i) (show aa.a.length+i<aa.a.length+aa.rows.length by omega);have d:gz aa (iH aa.j T ad (eF aa.j aa.cs T ad)) i=iH aa.j T ad (eF aa.j aa.cs T ad) (aa.a.length+i):=(Gz h a i g).symm;rw[d];rw[w7]at c;rw[w6]at f;have c:(aa.row i).rhs≠[]:=by
   intro e;have:=Cy l g;simp only[iM,bK]at this;rw[e]at this;simp[isNum,za]at this
  have d:¬fl (aa.row i).rhs=none:=λe=>c (JK.1 e);have u:(aa.row i).kind≠3->iH aa.j T ad (eF aa.j aa.cs T ad) (aa.a.length+i)<=0:=λc=>fy.1 λf=>by
   grind
  have l:(aa.row i).kind≠1->0<=iH aa.j T ad (eF aa.j aa.cs T ad) (aa.a.length+i):=λd=>fy.1 λf=>by
   grind
  exact⟨λd=>u (by omega),λc=>l (by omega),λd c=>by grind⟩
 ·have e:=Ou (c:=aa.cs) h (aM:=eF aa.j aa.cs T ad) a;have a:aa.P (iH aa.j T ad (eF aa.j aa.cs T ad))=obj aa.j aa.cs (iH aa.j T ad (eF aa.j aa.cs T ad)):=rfl;rw[a,e];unfold eF
  rcases jg b.1 with⟨aP,e⟩ | ⟨aP,e⟩<;>rw[e]
  ·simp;grind
  ·simp;grind
end
section
variable{aa:ar}{T:bu}{P:bM}
theorem xa:bk 0=[48]:=by
 have:Lib.decDigits 0=[48]:=by rw[Lib.decDigits_one (by decide)];rfl
 simp[bk,this]
theorem aaj:bk 1=[49]:=by
 have:Lib.decDigits 1=[49]:=by rw[Lib.decDigits_one (by decide)];rfl
 have h:¬(1:Rat)<0:=by decide
 simp[bk,this,h]
theorem aam:bk (-1)=[45,49]:=by
 have:Lib.decDigits 1=[49]:=by rw[Lib.decDigits_one (by decide)];rfl
 have h:(-1:Rat)<0:=by decide
 have a:(-1:Rat).num.natAbs=1:=by decide
 have a:(-1:Rat).den=1:=by decide
 simp[bk,this,h, a]
theorem OC{d:Nat->Rat}{i:Nat}:∀{K:Nat},(∀k,k<K->T.a k≠P.n+i)->nF P T d K i=[48]
 | 0,_=>rfl
 | K+1,h=>by rw[nF,aw (h K (by omega)),OC λk _=>h k (by omega)]
theorem OB(a:dT P T){d:Nat->Rat}{i k:Nat}:∀{K:Nat},K<=P.n->k<K->T.a k=P.n+i->nF P T d K i=bk (d k)
 | K+1,_,_,e=>by
   rw[nF];by_cases h:k=K
   ·grind
   ·rw[aw λb=>h (a.ci k K (by omega) (by omega) (e.trans b.symm)),OB a (by omega) (by omega) e]
theorem GD(a:dT P T)(d:Nat->Rat)(i:Nat):nF P T d P.n i=bk (h8 P T d (P.n+i)):=by
 rcases Bg a d (P.n+i) with⟨k,av,fr,cA⟩ | ⟨h,e⟩
 ·rw[cA,OB a (bc _) av fr]
 ·rw[e,OC h,xa]
theorem Jx(b:dT P T){a:Nat}(aI:a<P.m)(c:off P T.v (T.rows a)≠0)(i:Nat):lF P T a i=bk (hM P T a (P.n+i)):=by
 unfold lF;by_cases h:T.rows a=P.n+i
 ·rw[aL h,<-h,D' b aI]
  rcases uP c with e | e<;>rw[e]
  ·rw[aL (by decide)];exact aaj.symm
  ·rw[aw (by decide)];exact aam.symm
 ·rw[aw h,JW (Ne.symm h),GD b]
theorem R5(a:dT P T){ad:Nat}{aM:Int}{i:Nat}(b:i<P.m):∀{K:Nat},K<=P.m->i<K->lC T ad aM K (T.rows i)=bk (T.M i ad*(aM:Rat))
 | K+1,_,_=>by
   rw[lC];by_cases e:i=K
   ·grind
   ·rw[aw λc=>e (a.na i K b (by omega) c),R5 a b (by omega) (by omega)]
theorem R4(a:dT P T){ad:Nat}{aM:Int}(b:ad<P.n){k:Nat}(av:k<P.n):∀{K:Nat},K<=P.m->lC T ad aM K (T.a k)=bk (if k=ad then(aM:Rat) else 0)
 | 0,_=>by
   rw[lC];by_cases e:k=ad
   ·grind
   ·rw[aw λc=>e (a.ci k ad av b c),aw e,xa]
 | K+1,_=>by rw[lC,aw λe=>a.rc K k (by omega) av e.symm,R4 a b av (by omega)]
theorem aaq(a:dT P T){ad:Nat}{aM:Int}(b:ad<P.n){x:Nat}(c:x<P.n+P.m):lC T ad aM P.m x=bk (iH P T ad aM x):=by
 rcases a.jQ x c with⟨i,az,rfl⟩ | ⟨k,av,rfl⟩
 ·rw[wb a b az,R5 a az (bc _) az]
 ·rw[pT a b av,R4 a b av (bc _)]
theorem o9{m:Nat}{f:Nat->Rat}{i:Nat}(a:i<m)(h:bI e0 (f i)):bU ((List.range m).map λi=>bk (f i)) i=f i:=by
 unfold bU;rw[e5,jd,tu a];exact h.rd
theorem td(a:aa.I=true){m:Nat}{f:Nat->Rat}(h:∀i,i<m->bI e0 (f i)):dJ aa ((List.range m).map λi=>bk (f i)) m=true:=by
 unfold dJ;rw[a];simp only[rU,xf,decide_true,Bool.and_true];rw[eA];intro _ b;obtain⟨i,c,rfl⟩:=gl.1 b;exact(h i (o6.1 c)).isNum
theorem xJ{m:Nat} {f:Nat->Rat}(h:∀i,i<m->bI e0 (f i))(c:m<=1000:=by omega):jO ((List.range m).map λi=>bk (f i)):=by
 refine⟨by simp;omega,λ_ a=>?_⟩;obtain⟨i,b,rfl⟩:=gl.1 a;exact(h i (o6.1 b)).len
theorem h4.congr{x b:Nat->Rat}(h:h4 aa x)(e:∀j,j<aa.a.length->b j=x j):h4 aa b:=
 ⟨λj a=>by rw[e j a];exact h.c j a,λi c=>by
  rw[show gz aa b i=gz aa x i from c9 λj a=>by rw[e j a]];exact h.r i c⟩
theorem Ge{x a:Nat->Rat}(e:∀j,j<aa.a.length->a j=x j):aa.P a=aa.P x:=c9 λj a=>by rw[e j a]
theorem om.congr{x b:Nat->Rat}(h:om aa x)(e:∀j,j<aa.a.length->b j=x j):om aa b:=
 ⟨λj a=>by rw[e j a];exact h.c j a,λi c=>by
  rw[show gz aa b i=gz aa x i from c9 λj a=>by rw[e j a]];exact h.r i c,by rw[Ge e];exact h.n⟩
theorem Fa{B:Nat}{q:Rat}(h:bI B q):bI B (-q):=by
 unfold bI at*
 simp_all
theorem Nt{B:Nat}(h:1<=B):bI B 1:=⟨h,h⟩
theorem Ns{B:Nat}(a:1<=B){w:Int}(h:w=1∨w=-1):bI B (w:Rat):=by
 rcases h with rfl | rfl
 ·exact Nt a
 ·exact Fa (Nt a)
theorem Nu{B:Nat}{q:Rat}(h:bI B q){w:Int}(a:w=1∨w=-1):bI B (q*(w:Rat)):=by
 rcases a with rfl | rfl
 ·grind
 ·have:q*((-1:Int):Rat)=-q:=by simp;grind
  rw[this];exact Fa h
theorem pA:1<=e0:=As 1900
theorem EY(a:dT P T){e:Nat->Rat}{B:Nat}(b:1<=B)(h:∀k,k<P.n->bI B (e k))(x:Nat):bI B (h8 P T e x):=by
 rcases Bg a e x with⟨k,av,_,cA⟩ | ⟨_,cA⟩
 ·grind
 ·rw[cA];exact nx b
theorem Va{a b:Nat}{p q:Rat}(c:bI a p)(d:bI b q):bI (a*b+b*a) (p-q):=by
 have e:(p-q)*((p.den:Rat)*(q.den:Rat))=((p.num*q.den-q.num*p.den:Int):Rat):=by
  simp only[Rat.intCast_sub,zO,<-s6 p,<-s6 q,mU];grind
 refine vN e ⟨_,rfl,?_⟩ (⟨((p.den*q.den:Nat):Int),?_,bc _⟩:dP _ (p.den*q.den)) ?_ (bc _) ?_
 ·refine a8 (Int.natAbs_sub_le _ _) ?_;rw[o8,o8];exact Nat.add_le_add (gk c.1 d.2) (gk d.1 c.2)
 ·rw[mU,Rat.natCast_mul]
 ·intro h
  rcases u9.1 h with h | h
  ·exact p.den_nz (by exact_mod_cast h)
  ·exact q.den_nz (by exact_mod_cast h)
 ·exact a8 (gk c.2 d.2) (gj _ _)
end
section
variable{aa:ar}{T:bu}
theorem aas{aa:ar}{T:bu}{ad:Nat}(b:enters aa.j aa.cs T=some ad):eF aa.j aa.cs T ad=1∨eF aa.j aa.cs T ad=-1:=by
 obtain⟨_,a,_⟩:=j' b;simp only[bK,cP]at a;unfold eF
 rcases jg a.1 with⟨_,e⟩ | ⟨_,e⟩<;>rw[e]<;>simp
theorem hv.U7(h:c5 aa)(a:hv aa.j (e6 aa) T){ad:Nat}(b:ad<aa.a.length){aM:Int}(c:aM=1∨aM=-1){x:Nat}(d:x<aa.a.length+aa.rows.length):bI e0 (iH aa.j T ad aM x):=by
 rcases a.inv.B.jQ x d with⟨i,az,rfl⟩ | ⟨k,av,rfl⟩
 ·rw[wb a.inv.B b az];exact Nu (me (a.yr h az b)) c
 ·rw[pT a.inv.B b av];split
  ·exact Ns pA c
  ·exact nx pA
theorem aba{P:bM}{B a k:Nat}(h:bI B (T.M a k)):bI B (j3 P T a k):=by
 unfold j3;split
 ·exact Fa h
 ·exact h
theorem JV{P:bM}(b:dT P T){B a:Nat}(c:1<=B)(aI:a<P.m)(d:off P T.v (T.rows a)≠0)(h:∀k,k<P.n->bI B (T.M a k))(x:Nat):bI B (hM P T a x):=by
 by_cases e:x=T.rows a
 ·rw[e,D' b aI];exact Ns c (uP d)
 ·rw[JW e];exact EY b c (λk a=>aba (h k a)) x
theorem WT{P:bM}{V x:Nat}(a:x9 P V)(w:Int):bI V (goal P x w):=by
 unfold goal;split
 ·cases e:P.up x with
  | none=>exact nx a.v1
  | some u=>exact a.up x u e
 ·cases e:P.ah x with
  | none=>exact nx a.v1
  | some u=>exact a.ah x u e
theorem VY(h:c5 aa)(b:hv aa.j (e6 aa) T){a:Nat}(aI:a<aa.rows.length)(c:off aa.j T.v (T.rows a)≠0):bI e0 (pR aa.j T a):=by
 have d:=Va (WT (x:=T.rows a) h.uY (off aa.j T.v (T.rows a))) (b.ud h (b.inv.B.r a aI));have e:eC*bS 1660+bS 1660*eC<=bS 1900:=by
  have a:eC*bS 1660=bS 1690:=by rw[show eC=bS 30 from(fQ 30).symm];exact pn (by decide)
  rw[eZ (bS 1660),a];have:bS 1900=bS 210*bS 1690:=(pn (by decide)).symm;rw[this];have a:2<=bS 210:=a8 (show 2<=bS 1 by rw[fQ];decide) (j4);have:=fV (bS 1690) a;generalize bS 1690=p at*
  omega
 have b:bI e0 (goal aa.j (T.rows a) (off aa.j T.v (T.rows a))-T.v (T.rows a)):=d.mono (show _<=e0 by unfold e0;exact e);unfold pR;rw[nY];exact Nu b (uP c)
theorem abm(h:c5 aa)(b:aa.I=true){c:cW}(e:sH aa (oc aa.j (e6 aa)) (nq aa.j (e6 aa)) c):ga aa c=true/\c.ok:=by
 have i:=h.n;have i:=h.m
 rcases e with⟨T,a,dM,hw,wu⟩ | ⟨T,ad,dM,he,wq⟩ | ⟨T,dM,he⟩
 ·obtain⟨d,c,_⟩:=j' hw;have c:off aa.j T.v (T.rows a)≠0:=by simpa using c
  have e:∀i,i<aa.rows.length->bI e0 (hM aa.j T a (aa.a.length+i)):=λi _=>JV dM.1.inv.B pA d c (λ_ f=>me (dM.1.yr h d f)) _;have g:(List.range aa.j.m).map (lF aa.j T a)=(List.range aa.rows.length).map λi=>bk (hM aa.j T a (aa.a.length+i)):=xh λi f=>Jx dM.1.inv.B d c i;rw[g];have j:eX aa ((List.range aa.rows.length).map λi=>bk (hM aa.j T a (aa.a.length+i))) false=some (pR aa.j T a):=by
   unfold eX;rw[aL (td b e)];exact(yu b).2 (W8 b dM.1.inv dM.2 hw wu λi f=>o9 f (e i f))
  refine⟨?_,⟨⟨by simp,by simp⟩,xJ e,⟨by simp,by simp⟩⟩⟩;unfold ga;rw[aw (show ¬((2:Int)=1) by decide),aL rfl];simp only[j,fR,(VY h dM.1 d c).rd];simp[VZ c]
 ·obtain⟨e,_,_⟩:=j' he;have g:=aas he;have c:∀j,j<aa.a.length->bI e0 (T.v j):=λj a=>me (dM.1.ud h (by omega));have d:∀j,j<aa.a.length->bI e0 (iH aa.j T ad (eF aa.j aa.cs T ad) j):=λj a=>dM.1.U7 h e g (by omega);have g:(List.range aa.j.n).map (lC T ad (eF aa.j aa.cs T ad) aa.j.m)=(List.range aa.a.length).map λj=>bk (iH aa.j T ad (eF aa.j aa.cs T ad) j):=xh λj a=>aaq dM.1.inv.B e (by have:=o6.1 a;omega);rw[g];have f:il aa T=(List.range aa.a.length).map λj=>bk (T.v j):=rfl;have e:fU aa (il aa T)=true:=by
   unfold fU;rw[f,show aa.a.length=aa.a.length from rfl,td b c,Bool.true_and];exact(y4 b).2 ((oa.fits b dM.1.inv dM.2).congr λj a=>o9 a (c j a))
  have e:iL aa ((List.range aa.a.length).map λj=>bk (iH aa.j T ad (eF aa.j aa.cs T ad) j))=true:=by
   unfold iL;rw[td b d,Bool.true_and];exact(z7 b).2 ((acd b dM.1.inv he wq).congr λj a=>o9 a (d j a))
  refine⟨?_,⟨f▸xJ c,⟨by simp,by simp⟩,xJ d⟩⟩;unfold ga;grind
 ·have c:∀j,j<aa.a.length->bI e0 (T.v j):=λj a=>me (dM.1.ud h (by omega));have d:il aa T=(List.range aa.a.length).map λj=>bk (T.v j):=rfl;have e:∀i,i<aa.rows.length->bI e0 (h8 aa.j T (red aa.j aa.cs T) (aa.a.length+i)):=λi _=>EY dM.1.inv.B pA (λ_ f=>me (dM.1.Nq h f)) _;have f:y0 aa T=(List.range aa.rows.length).map λi=>bk (h8 aa.j T (red aa.j aa.cs T) (aa.a.length+i)):=xh λi _=>GD dM.1.inv.B _ i;have g:fU aa (il aa T)=true:=by
   unfold fU;rw[d,td b c,Bool.true_and];exact(y4 b).2 ((oa.fits b dM.1.inv dM.2).congr λj a=>o9 a (c j a))
  have h:gy aa (il aa T)=some (aa.P T.v):=by
   unfold gy;rw[d,aL (td b c),Ge λj a=>o9 a (c j a)]
  have k:eX aa (y0 aa T) true=some (aa.P T.v):=by
   unfold eX;rw[f,aL (td b e)];exact(yu b).2 (Z4 b dM.1.inv dM.2 he λi a=>o9 a (e i a))
  refine⟨?_,⟨d▸xJ c,f▸xJ e,⟨by simp,by simp⟩⟩⟩;unfold ga;rw[aL rfl];simp[g,h,k,tK,fR]
end
section
variable{aa:ar}
theorem aak{q:Rat}{k:Nat}(h:aV q k)(av:1<=k):(bk q).length<=20*k+2:=by
 have a:=yR h.1 av;have a:=yR h.2 av;unfold bk;grind
theorem TO(h:c5 aa)(i j:Nat):aV (aa.j.A i j) 30:=by
 rcases Dx (l:=(aa.row i).G) (f:=λ_=>0) j with e | ⟨c,a,e⟩
 ·show aV (hs _ j) _;rw[hs,e];exact qB
 ·show aV (hs _ j) _;rw[hs,e];exact hf ((Ad h i).2 c a)
theorem NC(h:c5 aa)(e:aa.I=true){bQ:Bool}{a:List (List UInt8)}(b:∀i,aV (bU a i) 400):(fR (eX aa a bQ)).length<1000000:=by
 have p:=h.n;have c:=h.m
 cases f:eX aa a bQ with
 | none=>simp[fR]
 | some d=>
   have g:=(vQ e f).ls.sum;have k:aV (aS (λi=>bU a i*rd (aa.row i).rhs) aa.rows.length) 5200:=by
    refine dY (xL (t:=400+30) λi _=>jk (b i) (hf (Ad h i).1)) ?_;exact a8 (zN (gk c (bc (400+30+1)))) (by decide)
   have l:∀j,aV (gb aa bQ (bU a) j) 5240:=λj=>by
    have m:aV (aS (λi=>bU a i*aa.j.A i j) aa.rows.length) 5200:=by
     refine dY (xL (t:=400+30) λi _=>jk (b i) (TO h i j)) ?_;exact a8 (zN (gk c (bc (400+30+1)))) (by decide)
    have n:aV (d0 aa bQ j) 30:=by
     unfold d0;split
     ·exact hf (q6 h j).2.2
     ·exact qB
    exact dY (Tk n m) (by omega)
   have o:aV (aS (λj=>gb aa bQ (bU a) j*rd (if gb aa bQ (bU a) j<0 then(aa.ad j).up else(aa.ad j).low)) aa.a.length) 31700:=by
    refine dY (xL (t:=5240+30) λj _=>jk (l j) ?_) ?_
    ·split
     ·exact hf (q6 h j).2.1
     ·exact hf (q6 h j).1
    ·grind
   have a:aV d 37000:=by rw[g];exact dY (vi k o) (by omega)
   have:=aak a (by decide);show(bk d).length<_;omega
theorem RY(c a b:Nat)(d:1<c)(h:a<b):c^a<c^b:=Nat.pow_lt_pow_right d h
theorem Vb{q:Rat}(h:bI (bS 1446) q):aV q 400:=by
 have a:bS 1446<4294967296^400:=by
  have:bS 1446<=bS 9^161:=by rw[DW];exact j4
  have b:bS 9^161<=4294967296^161:=zU (by rw[fQ];decide) _;exact dk (a8 this b) (RY 4294967296 161 400 (by decide) (by decide))
 exact⟨dk h.1 a,dk h.2 a⟩
theorem abp(h:c5 aa)(f:aa.I=true){c:cW}(b:sH aa (oc aa.j (e6 aa)) (nq aa.j (e6 aa)) c)(cH:c.st=2):(fR (eX aa c.d false)).length<1000000:=by
 rcases b with⟨T,a,dM,hw,wu⟩ | ⟨T,ad,dM,he,wq⟩ | ⟨T,dM,he⟩
 ·obtain⟨c,b,_⟩:=j' hw;have b:off aa.j T.v (T.rows a)≠0:=by simpa using b
  have g:(List.range aa.j.m).map (lF aa.j T a)=(List.range aa.rows.length).map λi=>bk (hM aa.j T a (aa.a.length+i)):=xh λi d=>Jx dM.1.inv.B c b i;have j:1<=bS 1446:=As 1446;have e:∀i,bI (bS 1446) (hM aa.j T a (aa.a.length+i)):=λi=>JV (B:=bS 1446) dM.1.inv.B j c b (λ_ b=>dM.1.yr h c b) _;refine NC h f λi=>?_;show aV (bU ((List.range aa.j.m).map (lF aa.j T a)) i) 400;rw[g];by_cases d:i<aa.rows.length
  ·rw[o9 d (me (e i))];exact Vb (e i)
  ·unfold bU;rw[e5,hc (by simp;omega)];exact hf (by simp)
 ·cases cH
 ·cases cH
end
end Go.Dam.C
namespace Go.Dam.C
open Go Go.Dam
structure sw(X:aA):Prop extends fC X where
 begun:X.gv F.HB=some y6
variable{X:aA}{pm:Perm}{H ab bX ai:ae}{n:Nat}
theorem Ve(a:sw X)(b:Tab H):Call X pm F.HB [] H λr ab=>ab=H/\r=.bool true:=by
 refine Call.over a.begun (v:=.bool true) (ab:=H) ?_ ⟨rfl,rfl⟩;simp only[y6,lT b];rfl
end Go.Dam.C
namespace Go.Dam.C
section
variable{α:Type}{f:α->Option α}
theorem zg:∀{k j:Nat} {a b c:α},fH f k a=some b->fH f j a=some c->f b=none->f c=none->b=c
 | 0,0,a,b,c,_,_,_,_=>by grind
 | 0,j+1,a,b,c,e,d,f,_=>by
   cases e;rw[fH,f]at d;cases d
 | k+1,0,a,b,c,d,e,_,f=>by
   cases e;rw[fH,f]at d;cases d
 | k+1,j+1,a,b,c,d,e,g,h=>by
   rw[fH]at d e
   cases b:f a with
   | none=>grind
   | some _=>
     rw[b]at d e;exact zg d e g h
theorem Cm:∀{k:Nat} {a b c:α},fH f k a=some b->f b=some c->fH f (k+1) a=some c
 | 0,a,b,c,h,e=>by cases h;rw[fH,e];rfl
 | k+1,a,b,c,h,e=>by
   rw[fH]at h|-
   cases b:f a with
   | none=>grind
   | some _=>
     rw[b]at h;exact Cm h e
end
def x3(aa:ar)(T:bu):Prop:=oc aa.j (e6 aa) T/\∃k,fH (jx aa.j) k aa.Y=some T
def tR(aa:ar)(T:bu):Prop:=nq aa.j (e6 aa) T/\∃a k j,fH (jx aa.j) k aa.Y=some a/\lH aa.j a=none/\fH (h' aa.j aa.cs) j a=some T
abbrev fZ(aa:ar)(a:cW):Prop:=sH aa (x3 aa) (tR aa) a
theorem Jo{aa:ar}(h:c5 aa)(b:aa.I=true):x' aa (x3 aa) (tR aa) 2000 where
 t1:=(runs h b).t1
 xR:=(runs h b).xR
 s1:=⟨(runs h b).s1,0,rfl⟩
 g1:=λT a=>(runs h b).g1 T a.1
 cw:=λT c a e=>⟨(runs h b).cw T c a.1 e,a.2.choose+1,Cm a.2.choose_spec e⟩
 s2:=λT a e=>⟨(runs h b).s2 T a.1 e,T,a.2.choose,0,a.2.choose_spec,e,rfl⟩
 g2:=λT a=>(runs h b).g2 T a.1
 gg:=λT c a e=>by
  obtain⟨d,f,k,j,g,i,l⟩:=a;exact⟨(runs h b).gg T c d e,f,k,j+1,g,i,Cm l e⟩
 D2:=λT a=>(runs h b).D2 T a.1
theorem fZ.s{aa:ar}{a:cW}(h:fZ aa a):sH aa (oc aa.j (e6 aa)) (nq aa.j (e6 aa)) a:=by
 cases h with
 | inf T a b c d=>exact .inf T a b.1 c d
 | cB T c a b d=>exact .cB T c a.1 b d
 | opt T a b=>exact .opt T a.1 b
theorem GN{P:bM}{T:bu}(h:lH P T=none):jx P T=none:=by unfold jx;rw[h]
theorem GO{P:bM}{T:bu}{a:Nat}(h:lH P T=some a)(cH:lU P T a (off P T.v (T.rows a))=none):jx P T=none:=by unfold jx;grind
theorem BV{P:bM}{c:Nat->Rat}{T:bu}(h:enters P c T=none):h' P c T=none:=by unfold h';rw[h]
theorem BW{P:bM}{c:Nat->Rat}{T:bu}{k:Nat}(h:enters P c T=some k)(cH:(dW P T k (eF P c T k) P.m).e4=none):h' P c T=none:=by unfold h';grind
theorem tR.one{aa:ar}{T a:bu}(h:tR aa T)(b:tR aa a)(e:h' aa.j aa.cs T=none)(c:h' aa.j aa.cs a=none):T=a:=by
 obtain⟨_,_,_,_,d,f,g⟩:=h;obtain⟨_,_,_,_,i,j,k⟩:=b;obtain rfl:=zg d i (GN f) (GN j);exact zg g k e c
theorem x3.no{aa:ar}{T b:bu}{a:Nat}(h:x3 aa T)(cH:lH aa.j T=some a)(c:lU aa.j T a (off aa.j T.v (T.rows a))=none)(d:tR aa b):False:=by
 obtain⟨_,_,a⟩:=h;obtain⟨_,_,_,_,e,f,_⟩:=d;obtain rfl:=zg a e (GO cH c) (GN f);grind
theorem fZ.uniq{aa:ar}{a b:cW}(h:fZ aa a)(g:fZ aa b):a=b:=by
 cases h with
 | inf _ _ a b c=>
   cases g with
   | inf _ _ d e f=>
     obtain⟨_,_,g⟩:=a;obtain⟨_,_,h⟩:=d;obtain rfl:=zg g h (GO b c) (GO e f);grind
   | cB _ _ d _ _=>exact(a.no b c d).elim
   | opt _ d _=>exact(a.no b c d).elim
 | cB _ _ a b c=>
   cases g with
   | inf _ _ d e f=>exact(d.no e f a).elim
   | cB _ _ d e f=>
     obtain rfl:=a.one d (BW b c) (BW e f);grind
   | opt _ d e=>
     obtain rfl:=a.one d (BW b c) (BV e);grind
 | opt _ a b=>
   cases g with
   | inf _ _ c d e=>exact(c.no d e a).elim
   | cB _ _ c d e=>
     obtain rfl:=a.one c (BV b) (BW d e);grind
   | opt _ c d=>
     obtain rfl:=a.one c (BV b) (BV d);rfl
theorem fZ.ga{aa:ar}(h:c5 aa)(a:aa.I=true){c:cW}(b:fZ aa c):C.ga aa c=true/\c.ok:=abm h a b.s
theorem fZ.len{aa:ar}(h:c5 aa)(a:aa.I=true){c:cW}(b:fZ aa c)(cH:c.st=2):(fR (eX aa c.d false)).length<1000000:=abp h a b.s cH
theorem fZ.R0{aa:ar}(h:c5 aa)(d:aa.I=true){c:cW}(b:fZ aa c)(b7:c.st=1):dJ aa c.x aa.a.length=true/\h4 aa (bU c.x)/\∀s∈c.x,s.length<=10000:=by
 have c:=h.n
 rcases b.s with⟨T,a,dM,hw,wu⟩ | ⟨T,ad,dM,he,wq⟩ | ⟨T,dM,he⟩
 ·cases b7
 ·cases b7
 ·have a:∀j,j<aa.a.length->bI e0 (T.v j):=λj b=>me (dM.1.ud h (by omega));have c:il aa T=(List.range aa.a.length).map λj=>bk (T.v j):=rfl;exact⟨c▸td d a,(oa.fits d dM.1.inv dM.2).congr λj b=>o9 b (a j b),c▸(xJ a).all⟩
structure cz where
 ad:Int
 at':List UInt8
 l:Int
 r:Int
 d:List (List UInt8)
def fs:cz:=⟨-1,[],0,0,[]⟩
structure bV where
 todo:List (Nat×List a1)
 tree:List cz
 L:cW
 val:Option Rat
def bY:a1:=⟨[],[],[],[],false⟩
def kE(a:List a1)(x:List (List UInt8)):Option Nat:=(List.range a.length).find? λi=>(a.getD i bY).int&&decide ((bU x i).den≠1)
open Classical in
noncomputable def eo(aa:ar):cW:=if h:∃a,fZ aa a then h.choose else⟨0,[],[],[],[]⟩
theorem vg{aa:ar}{a:cW}(h:fZ aa a):eo aa=a:=by
 have b:∃a,fZ aa a:=⟨a,h⟩;unfold eo;rw[dif_pos b];exact fZ.uniq b.choose_spec h
def bV.U(s:bV)(cs:List a1):bV:={s with tree:=s.tree++[fs],todo:=s.todo++[(s.tree.length,cs)]}
def ig(cs:List a1)(i:Nat)(t:List UInt8):List a1:=cs.set i {cs.getD i bY with low:=t}
def h2(cs:List a1)(i:Nat)(t:List UInt8):List a1:=cs.set i {cs.getD i bY with up:=t}
def bV.branch(s:bV)(k:Nat)(cs:List a1)(i:Nat)(v:Rat):bV:=
 {((s.U (h2 cs i (bk (v.floor:Rat)))).U (ig cs i (bk ((v.floor:Rat)+1)))) with tree:=((s.tree++[fs])++[fs]).set k ⟨i,bk (v.floor:Rat),s.tree.length,s.tree.length+1,[]⟩}
def bV.Z(s:bV)(k:Nat)(d:List (List UInt8)):bV:={s with tree:=s.tree.set k {s.tree.getD k fs with d:=d}}
def nB(v:Option Rat)(w:Rat):Bool:=match v with
 | some u=>decide (u<=w)
 | none=>false
noncomputable def bV.look(l:ar)(s:bV)(k:Nat)(cs:List a1):bV:=
 if(⟨cs,l.rows⟩:ar).I=true then
  if(eo ⟨cs,l.rows⟩).st=1 then
   if nB s.val (rd (eo ⟨cs,l.rows⟩).val)=true then s.Z k (eo ⟨cs,l.rows⟩).d
   else match kE l.a (eo ⟨cs,l.rows⟩).x with
    | none=>{s.Z k (eo ⟨cs,l.rows⟩).d with val:=some (rd (eo ⟨cs,l.rows⟩).val),L:=⟨1,(eo ⟨cs,l.rows⟩).val,(eo ⟨cs,l.rows⟩).x,[],[]⟩}
    | some i=>(s.Z k (eo ⟨cs,l.rows⟩).d).branch k cs i (bU (eo ⟨cs,l.rows⟩).x i)
  else s.Z k (eo ⟨cs,l.rows⟩).d
 else s
def lr(deep:Bool)(n:Nat):Nat:=if deep then n-1 else 0
def bV.del(s:bV)(k:Nat):bV:={s with todo:=s.todo.eraseIdx k}
inductive hz(l:ar)(deep:Bool)(m:Nat):bV->bV->Bool->Prop
 | done (s:bV):s.todo=[]->hz l deep m s s (decide (s.tree.length<=m))
 | jj (s:bV):s.todo≠[]->m<s.tree.length->hz l deep m s s false
 | step (s jJ:bV) (b:Bool) (x:Nat×List a1):s.todo[lr deep s.todo.length]? = some x->s.tree.length<=m->hz l deep m ((s.del (lr deep s.todo.length)).look l x.1 x.2) jJ b->hz l deep m s jJ b
theorem hz.Wc{l:ar}{deep:Bool}{m:Nat}{s a b:bV}{x y:Bool}(h:hz l deep m s a x):hz l deep m s b y->a=b/\x=y:=by
 induction h with
 | done s h=>
   intro g
   cases g with
   | done _ _=>grind
   | jj _ _ _=>grind
   | step _ _ _ x _=>grind
 | jj s h _=>
   intro g
   cases g with
   | done _ g=>grind
   | jj _ _ _=>grind
   | step _ _ _ x _ g=>omega
 | step s _ _ x _ _ _ ih=>
   intro g
   cases g with
   | done _ g=>grind
   | jj _ _ g=>omega
   | step _ _ _ y _ _ _=>
     grind
theorem hz.more{l:ar}{deep:Bool}{m n:Nat}{s a:bV}(c:m<=n){x:Bool}(h:hz l deep m s a x):x=true->hz l deep n s a true:=by
 induction h with
 | done s h=>
   intro e;have:s.tree.length<=m:=by simpa using e
   have a:=hz.done (l:=l) (deep:=deep) (m:=n) s h;grind
 | jj s h _=>grind
 | step s a _ x b _ _ ih=>
   intro e;exact .step s a true x b (by omega) (ih e)
def ff:Rat:=(10:Rat)^20
def ku(s:List UInt8):Prop:=s≠[]/\s.length<=30/\-ff<=rd s/\rd s<=ff
structure kC(l:ar)(cs:List a1):Prop where
 len:cs.length=l.a.length
 c:∀i,i<cs.length->(cs.getD i bY).cost=(l.ad i).cost/\(cs.getD i bY).int=(l.ad i).int/\((l.ad i).int=false->(cs.getD i bY).low=(l.ad i).low/\(cs.getD i bY).up=(l.ad i).up)/\((l.ad i).int=true->ku (cs.getD i bY).low/\ku (cs.getD i bY).up)
theorem ux{α:Type}{cs:List α}{c d:α}(h:c∈cs):∃i,i<cs.length/\cs.getD i d=c:=by
 obtain⟨i,a,rfl⟩:=tp h;exact⟨i,a,by grind⟩
theorem kC.fM{l:ar}(aY:c5 l){cs:List a1}(h:kC l cs):c5 ⟨cs,l.rows⟩:=by
 refine⟨by show cs.length<=6;rw[h.len];exact aY.n,aY.m,λ_ b=>?_,aY.r⟩;obtain⟨i,a,rfl⟩:=ux (d:=bY) b;obtain⟨b,_,_,c⟩:=h.c i a;have e:=aY.c _ (cX (ar.kc (aa:=l) (i:=i) (by rw[<-h.len];exact a)));rw[b]
 cases f:(l.ad i).int with
 | false=>grind
 | true=>obtain⟨a,b⟩:=c f;exact⟨a.2.1,b.2.1,e.2.2⟩
theorem Oo(k:Nat):∀n,n<10^(k+1)->(Lib.decDigits n).length<=k+1:=by
 induction k with
 | zero=>intro n h;rw[Lib.decDigits_one (by simpa using h)];grind
 | succ k ih=>
   intro n _;by_cases a:n<10
   ·grind
   ·rw[Lib.decDigits,dif_neg a];grind
theorem Hd{z:Int}(aP:z.natAbs<=10^20):rd (bk (z:Rat))=z:=by
 have a:bI e0 (z:Rat):=by
  refine⟨?_,?_⟩
  ·rw[Rat.num_intCast];exact a8 aP (by rw[<-fQ];exact j4)
  ·rw[Rat.den_intCast];exact As 1900
 exact a.rd
theorem Pw{z:Int}(aP:z.natAbs<=10^20):(bk (z:Rat)).length<=30:=by
 have a:=Oo 20 z.natAbs (by omega);unfold bk;rw[Rat.num_intCast,Rat.den_intCast];grind
theorem aal(q:Rat):bk q≠[]:=by
 have:=yS q.num.natAbs;unfold bk;simp_all
theorem ze{z:Int}(b7:-ff<=(z:Rat))(cH:(z:Rat)<=ff):z.natAbs<=10^20:=by
 have e:ff=((10^20:Int):Rat):=by unfold ff;decide +kernel
 rw[e]at b7 cH;have cH:z<=10^20:=Rat.intCast_le_intCast.1 cH;have b7:-(10^20)<=z:=by
  have:((-(10^20):Int):Rat)<=(z:Rat):=by simpa using b7
  exact Rat.intCast_le_intCast.1 this
 omega
theorem ku.int{z:Int}(b7:-ff<=(z:Rat))(cH:(z:Rat)<=ff):ku (bk (z:Rat)):=by
 have h:=ze b7 cH;exact⟨aal _,Pw h,by rw[Hd h];exact b7,by rw[Hd h];exact cH⟩
theorem pX{α:Type}{cs:List α}{i j:Nat}{c d:α}(a:i<cs.length):(cs.set i c).getD j d=if j=i then c else cs.getD j d:=by
 grind
theorem kC.up{l:ar}{cs:List a1}(h:kC l cs){i:Nat}(a:i<cs.length)(a:(l.ad i).int=true){t:List UInt8}(a:ku t):kC l (h2 cs i t):=by
 refine⟨by simp[h2,h.len],λj a=>?_⟩;have a:j<cs.length:=by simpa [h2]using a
 have b:=h.c j a;unfold h2;grind
theorem kC.low{l:ar}{cs:List a1}(h:kC l cs){i:Nat}(a:i<cs.length)(a:(l.ad i).int=true){t:List UInt8}(a:ku t):kC l (ig cs i t):=by
 refine⟨by simp[ig,h.len],λj a=>?_⟩;have a:j<cs.length:=by simpa [ig]using a
 have b:=h.c j a;unfold ig;grind
theorem x0:ff=((10^20:Int):Rat):=by rfl
theorem vs:-ff=((-(10^20):Int):Rat):=by rfl
theorem O0{v:Rat}(b7:-ff<=v)(cH:v<=ff):ku (bk (v.floor:Rat)):=by
 refine ku.int ?_ (Rat.le_trans (Rat.floor_le v) cH);rw[vs]at b7|-;exact Rat.intCast_le_intCast.2 (Rat.le_floor_iff.2 b7)
theorem Cc{v:Rat}(h:v.den≠1):((v.floor:Int):Rat)<v:=by
 refine Rat.lt_of_le_of_ne (Rat.floor_le v) λe=>h ?_;rw[<-e,Rat.den_intCast]
theorem NX{v:Rat}(b7:-ff<=v)(cH:v<=ff)(b:v.den≠1):ku (bk ((v.floor:Rat)+1)):=by
 have e:((v.floor:Rat)+1)=((v.floor+1:Int):Rat):=by simp
 rw[e];refine ku.int ?_ ?_
 ·rw[vs]at b7|-;have:=Rat.le_floor_iff.2 b7;exact Rat.intCast_le_intCast.2 (by omega)
 ·rw[x0]at cH|-;have a:((v.floor:Int):Rat)<((10^20:Int):Rat):=(by have:=Cc b;grind);have a:=Rat.intCast_lt_intCast.1 a;exact Rat.intCast_le_intCast.2 (by omega)
structure jq(l:ar):Prop where
 s:c5 l
 c:∀i,i<l.a.length->(l.ad i).int=true->ku (l.ad i).low/\ku (l.ad i).up
theorem BK{l:ar}{i:Nat}:l.a.getD i bY=l.ad i:=rfl
theorem jq.node{l:ar}(h:jq l):kC l l.a:=⟨rfl,λi a=>⟨rfl,rfl,λ_=>⟨rfl,rfl⟩,λe=>h.c i a e⟩⟩
structure lO(l:ar)(s:bV):Prop where
 h0:∀x∈s.todo,x.1<s.tree.length/\kC l x.2
theorem lO.U{l:ar}{s:bV}(h:lO l s){cs:List a1}(b:kC l cs):lO l (s.U cs):=by
 refine⟨λx a=>?_⟩;simp only[bV.U,fc,mV]at a;simp only[bV.U,o4,List.length_singleton]
 rcases a with a | rfl
 ·exact⟨by have:=(h.h0 x a).1;omega,(h.h0 x a).2⟩
 grind
theorem lO.Z{l:ar}{s:bV}(h:lO l s){k:Nat}{d:List (List UInt8)}:lO l (s.Z k d):=⟨λx a=>by
 have:=h.h0 x a;simpa [bV.Z]using this⟩
theorem lO.del{l:ar}{s:bV}(h:lO l s){k:Nat}:lO l (s.del k):=⟨λx a=>h.h0 x (List.mem_of_mem_eraseIdx a)⟩
theorem Fk{a:List a1}{x:List (List UInt8)}{i:Nat}(h:kE a x=some i):i<a.length/\(a.getD i bY).int=true/\(bU x i).den≠1:=by
 obtain⟨_,_,_⟩:=List.find?_range_eq_some.1 h;grind
theorem lO.branch{l:ar}{s:bV}(h:lO l s){k i:Nat}{cs:List a1}{v:Rat}(a:kC l cs)(b:i<cs.length)(c:(l.ad i).int=true)(b7:-ff<=v)(cH:v<=ff)(d:v.den≠1):lO l (s.branch k cs i v):=by
 have g:=(h.U (a.up b c (O0 b7 cH))).U (a.low b c (NX b7 cH d));refine⟨λx a=>?_⟩;have:=g.h0 x a;simpa [bV.branch,bV.U]using this
theorem JA{l:ar}{cs:List a1}(aY:c5 l)(b:kC l cs)(d:(⟨cs,l.rows⟩:ar).I=true){a:cW}(e:fZ ⟨cs,l.rows⟩ a)(b7:a.st=1){i:Nat}(c:i<cs.length)(f:(l.ad i).int=true):-ff<=bU a.x i/\bU a.x i<=ff:=by
 obtain⟨_,a,_⟩:=e.R0 (b.fM aY) d b7;obtain⟨d,e⟩:=a.c i c;obtain⟨_,_,_,g⟩:=b.c i c;obtain⟨a,b⟩:=g f;exact⟨Rat.le_trans a.2.2.1 (d a.1),Rat.le_trans (e b.1) b.2.2.2⟩
end Go.Dam.C
namespace Go.Dam.C
open Go Go.Dam
variable{X:aA}{pm:Perm}{H ab bX ai:ae}{n:Nat}
def jN(aW:Nat):Value->Prop
 | .slice (some a) n _=>aW<=a.block/\0<n
 | _=>True
theorem dE.put{v:Value}{m w aW b:Nat}{P a:Nat->List Value->Prop}(h:dE H v m w P)(c:jN aW v)(q:b<aW)(x:bz)(e:∀i cs,i<m->P i cs->a i cs):dE (H.put b x) v m w a:=by
 obtain⟨f,g,rfl,j⟩:=h.ex;refine⟨f,g,rfl,λi b=>?_⟩;obtain⟨d,k,y,l,cs,rfl,m,n,o,p⟩:=j i b;have c:aW<=d:=c.1;exact⟨d,k,y,l,cs,rfl,by rw[a6 (by omega)];exact m,n,o,e i cs b p⟩
def pH(H:ae)(aW:Nat)(v:Value)(l:List b9):Prop:=dE H v l.length 5 λi b=>∃r a,l[i]? = some r/\b=r.cells a/\kz H a r.G/\jN aW a
theorem pH.rows{aW:Nat}{v:Value}{l:List b9}(h:pH H aW v l):jn H v l:=dE.imp h (λ_ _ e=>e) λ_ _ _ ⟨r,a,b,c,d,_⟩=>⟨r,a,b,c,d⟩
theorem pH.ext{aW:Nat}{v:Value}{l:List b9}(h:pH H aW v l)(e:Ext H ab):pH ab aW v l:=dE.imp h e λ_ _ _ ⟨r,a,b,c,d,f⟩=>⟨r,a,b,c,d.ext e,f⟩
theorem pH.put{aW b:Nat}{v:Value}{l:List b9}(h:pH H aW v l)(c:jN aW v)(a:b<aW)(x:bz):pH (H.put b x) aW v l:=
 dE.put h c a x λ_ _ _ ⟨r,c,d,e,f,b⟩=>⟨r,c,d,e,dE.put f b a x λ_ _ _ h=>h,b⟩
def mh(H:ae)(aW:Nat)(r:Value)(aa:ar):Prop:=∃a b,r=.agg #[a,b]/\hO H a aa.a/\pH H aW b aa.rows/\jN aW a/\jN aW b
theorem mh.aa{aW:Nat}{r:Value}{aa:ar}(h:mh H aW r aa):kA H r aa:=by
 obtain⟨a,b,rfl,c,d,_⟩:=h;exact⟨a,b,rfl,c,d.rows⟩
theorem mh.ext{aW:Nat}{r:Value}{aa:ar}(h:mh H aW r aa)(e:Ext H ab):mh ab aW r aa:=by
 obtain⟨a,b,rfl,c,d,f⟩:=h;exact⟨a,b,rfl,c.ext e,d.ext e,f⟩
theorem mh.put{aW b:Nat}{r:Value}{aa:ar}(h:mh H aW r aa)(a:b<aW)(x:bz):mh (H.put b x) aW r aa:=by
 obtain⟨d,e,rfl,f,g,b,c⟩:=h;exact⟨d,e,rfl,dE.put f b a x λ_ _ _ h=>h,g.put c a x,b,c⟩
def a1.cut(c:a1):a1:={c with low:=c.low.take 20,up:=c.up.take 20,cost:=c.cost.take 20}
def b9.cut(r:b9):b9:={r with G:=(r.G.take 8).map λc=>{c with v:=c.v.take 20},rhs:=r.rhs.take 30}
def ar.cut(aa:ar):ar:=⟨(aa.a.take 6).map a1.cut,(aa.rows.take 6).map b9.cut⟩
def fS(H:ae)(v:Value)(m w:Nat)(P:Nat->List Value->Prop):Prop:=∃a b,v=.slice a m b/\m<=b/\(a=none->m=0)/\∀d,a=some d->∃b c a,d=⟨b,c,none⟩/\(H.get b=some (.ro a)∨H.get b=some (.cells a (.n w)))/\c+m*w<=a.length/\∀i,i<m->∃b,bB a (c+i*w) w=some b/\P i b
theorem fS.aZ{v:Value}{m w:Nat}{P:Nat->List Value->Prop}(h:fS H v m w P):dE H v m w P:=by
 obtain⟨b,i,rfl,_,_,j⟩:=h;refine⟨b,i,rfl,λk l=>?_⟩
 cases b with
 | none=>grind
 | some _=>
   obtain⟨c,d,e,rfl,a,_,m⟩:=j _ rfl;obtain⟨f,g,h⟩:=m k l
   rcases a with a | a
   ·exact⟨c,d,_,e,f,rfl,a,rfl,g,h⟩
   ·exact⟨c,d,_,e,f,rfl,a,rfl,g,h⟩
theorem fS.imp{v:Value}{m w:Nat}{P a:Nat->List Value->Prop}(h:fS H v m w P)(e:Ext H ab)(b:∀i cs,i<m->P i cs->a i cs):fS ab v m w a:=by
 obtain⟨c,d,rfl,f,g,j⟩:=h;refine⟨c,d,rfl,f,g,λk l=>?_⟩;obtain⟨m,n,o,rfl,p,q,r⟩:=j k l;exact⟨m,n,o,rfl,p.imp (e _ _) (e _ _),q,λi a=>(r i a).imp λcs h=>⟨h.1,b i cs a h.2⟩⟩
def vy(H:ae)(v:Value)(l:List b9):Prop:=fS H v l.length 5 λi a=>∃r b,l[i]? = some r/\a=r.cells b/\fS H b r.G.length 2 λi a=>∃c,r.G[i]? = some c/\a=c.cells
def sB(H:ae)(v:Value)(aa:ar):Prop:=∃a b,v=.agg #[a,b]/\(fS H a aa.a.length 5 λi a=>∃c,aa.a[i]? = some c/\a=c.cells)/\vy H b aa.rows
theorem vy.ext{v:Value}{l:List b9}(h:vy H v l)(e:Ext H ab):vy ab v l:=fS.imp h e λ_ _ _ ⟨r,a,b,c,d⟩=>⟨r,a,b,c,d.imp e λ_ _ _ h=>h⟩
theorem sB.ext{v:Value}{aa:ar}(h:sB H v aa)(e:Ext H ab):sB ab v aa:=by
 obtain⟨a,b,rfl,c,d⟩:=h;exact⟨a,b,rfl,c.imp e λ_ _ _ h=>h,d.ext e⟩
theorem sB.aa{v:Value}{aa:ar}(h:sB H v aa):kA H v aa:=by
 obtain⟨a,b,rfl,c,d⟩:=h;exact⟨a,b,rfl,c.aZ,dE.imp d.aZ (λ_ _ e=>e) λ_ _ _ ⟨r,a,b,c,d⟩=>⟨r,a,b,c,d.aZ⟩⟩
theorem sX{a cs:List Value}{o w:Nat}(h:bB a o w=some cs):o+w<=a.length/\cs=(a.drop o).take w:=by
 unfold bB at h;by_cases b:o+w<=a.length
 ·rw[cJ,hd b,cond_true]at h;exact⟨b,(jH h).symm⟩
 ·rw[cJ,j1 b,cond_false]at h;cases h
theorem pW{a:List Value}{o w:Nat}(h:o+w<=a.length):bB a o w=some ((a.drop o).take w):=by
 unfold bB;rw[cJ,hd h,cond_true]
def jR(H:ae)(b n w:Nat)(l:List Value):ae:=if n=0 then H else H.put b (.cells l (.n w))
@[simp] theorem Gg{b n w:Nat}{l:List Value}:(jR H b n w l).next=H.next:=by unfold jR;split<;>rfl
def ey(L:List Value)(w n:Nat)(f:Nat->List Value):Prop:=L.length=n*w/\∀j,j<n->(f j).length=w/\∀k,k<w->L[j*w+k]? = (f j)[k]?
theorem ey.of{L:List Value}{w n:Nat}{f:Nat->List Value}(aY:L.length=n*w)(h:∀j,j<n->bB L (j*w) w=some (f j)):ey L w n f:=by
 refine⟨aY,λj b=>?_⟩;obtain⟨_,a⟩:=sX (h j b);refine⟨by rw[a];simp;omega,λ_ b=>?_⟩;rw[a,jY b,jZ]
theorem ey.lt{L:List Value}{w n j k:Nat}{f:Nat->List Value}(h:ey L w n f)(a:j<n)(av:k<w):j*w+k<L.length:=by
 have b:j*w+w<=n*w:=by rw[<-j0];exact fV _ a
 rw[h.1];omega
theorem ey.row{L:List Value}{w n j:Nat}{f:Nat->List Value}(h:ey L w n f)(a:j<n):bB L (j*w) w=some (f j):=by
 have b:j*w+w<=n*w:=by rw[<-j0];exact fV _ a
 rw[pW (by rw[h.1];exact b)];congr 1;apply n4;intro k;by_cases b:k<w
 ·rw[jY b,jZ];exact(h.2 j a).2 k b
 ·rw[hc (by simp;omega),hc (by rw[(h.2 j a).1];omega)]
theorem ey.set{L:List Value}{w n j k:Nat}{f ic:Nat->List Value}(h:ey L w n f)(g:j<n)(av:k<w)(v:Value)(b:ic j=(f j).set k v)(c:∀i,i<n->i≠j->ic i=f i):ey (L.set (j*w+k) v) w n ic:=by
 refine⟨by simp[h.1],λi a=>⟨?_,λp d=>?_⟩⟩
 ·by_cases e:i=j
  ·subst e;rw[b];simp;exact(h.2 i a).1
  ·rw[c i a e];exact(h.2 i a).1
 ·by_cases e:i=j
  ·subst e;rw[b];by_cases f:p=k
   ·subst f;rw[tk (h.lt g av),tk (by rw[(h.2 i a).1];exact av)]
   ·rw[o2 (by omega),o2 (Ne.symm f)];exact(h.2 i a).2 p d
  ·rw[c i a e,o2]
   ·exact(h.2 i a).2 p d
   ·rcases Nat.lt_or_gt_of_ne e with e | e
    ·have:i*w+w<=j*w:=by rw[<-j0];exact fV _ e
     omega
    ·have:j*w+w<=i*w:=by rw[<-j0];exact fV _ e
     omega
theorem ey.ex{l:List Value}{w n:Nat}{P:Nat->List Value->Prop}(aY:l.length=n*w)(h:∀i,i<n->∃cs,bB l (i*w) w=some cs/\P i cs):∃f,ey l w n f/\∀i,i<n->P i (f i):=by
 refine⟨λi=>(bB l (i*w) w).getD [],ey.of aY λj a=>?_,λj a=>?_⟩
 ·obtain⟨cs,e,_⟩:=h j a;rw[e];rfl
 ·obtain⟨cs,e,p⟩:=h j a;show P j ((bB l (j*w) w).getD []);rw[e];exact p
end Go.Dam.C
namespace Go.Dam.C
open Go Go.Dam
variable{X:aA}{pm:Perm}{H ab bX ai:ae}{n:Nat}
theorem aC.jR(u:aC pm n H ab){b k w:Nat}{l:List Value}(h:n<=b)(a':ab.get b=none)(a:b<ab.next):aC pm n H (C.jR ab b k w l):=by
 unfold C.jR;split
 ·exact u
 ·exact aC.fill u h a' a _
structure gX(pm:Perm)(ai H:ae)(eH cZ et aH eg dv:Nat)(hC dr:Nat->List Value):Prop where
 k:K pm ai H
 r:H.get eH=some (.cells [.slice none 0 0,.slice none 0 0] (.t 0))
 x:H.get cZ=some (.cells [aZ et eg,aZ aH dv] (.t 0))
 c:0<eg->∃L,H.get et=some (.cells L (.n 5))/\ey L 5 eg hC
 w:0<dv->∃L,H.get aH=some (.cells L (.n 5))/\ey L 5 dv dr
structure vu(ai:ae)(eH cZ et aH:Nat):Prop where
 b7:ai.next<=eH
 cH:eH<et
 cD:et<aH
 dS:aH<cZ
variable{eH cZ et aH eg dv:Nat}{hC dr:Nat->List Value}
theorem gX.up(s:gX pm ai H eH cZ et aH eg dv hC dr)(u:K pm H ab):gX pm ai ab eH cZ et aH eg dv hC dr where
 k:=K.trans s.k u
 r:=u.some s.k.q s.r
 x:=u.some s.k.q s.x
 c:=λh=>(s.c h).imp λ_ h=>⟨u.some s.k.q h.1,h.2⟩
 w:=λh=>(s.w h).imp λ_ h=>⟨u.some s.k.q h.1,h.2⟩
theorem gX.put(s:gX pm ai H eH cZ et aH eg dv hC dr)(q:vu ai eH cZ et aH){b:Nat}{y x:bz}(a:cZ<b)(a':H.get b=some y)(a:∀o,y≠.cf o):gX pm ai (H.put b x) eH cZ et aH eg dv hC dr where
 k:=aC.put s.k (by have:=q.b7;have:=q.cH;have:=q.cD;have:=q.dS;omega) a' a _
 r:=by rw[a6 (by have:=q.b7;have:=q.cH;have:=q.cD;have:=q.dS;omega)];exact s.r
 x:=by rw[a6 (by omega)];exact s.x
 c:=λh=>(s.c h).imp λ_ h=>⟨by rw[a6 (by have:=q.cD;have:=q.dS;omega)];exact h.1,h.2⟩
 w:=λh=>(s.w h).imp λ_ h=>⟨by rw[a6 (by have:=q.dS;omega)];exact h.1,h.2⟩
theorem gX.row(s:gX pm ai H eH cZ et aH eg dv hC dr)(q:vu ai eH cZ et aH){a:Nat->List Value}{i k:Nat}{v:Value}(d:i<dv)(av:k<5)(e:a i=(dr i).set k v)(f:∀j,j<dv->j≠i->a j=dr j){L:List Value}(b:H.get aH=some (.cells L (.n 5))):
 gX pm ai (H.put aH (.cells (L.set (i*5+k) v) (.n 5))) eH cZ et aH eg dv hC a where
 k:=aC.put s.k (by have:=q.b7;have:=q.cH;have:=q.cD;have:=q.dS;omega) b (by simp) _
 r:=by rw[a6 (by have:=q.b7;have:=q.cH;have:=q.cD;have:=q.dS;omega)];exact s.r
 x:=by rw[a6 (by have:=q.dS;omega)];exact s.x
 c:=λh=>(s.c h).imp λ_ h=>⟨by rw[a6 (by have:=q.cD;have:=q.dS;omega)];exact h.1,h.2⟩
 w:=λh=>by
  obtain⟨_,c,g⟩:=s.w h;rw[b]at c;cases c;exact⟨_,bO,g.set d av v e f⟩
theorem gX.ad(s:gX pm ai H eH cZ et aH eg dv hC dr)(q:vu ai eH cZ et aH){a:Nat->List Value}{i k:Nat}{v:Value}(d:i<eg)(av:k<5)(e:a i=(hC i).set k v)(f:∀j,j<eg->j≠i->a j=hC j){L:List Value}(b:H.get et=some (.cells L (.n 5))):
 gX pm ai (H.put et (.cells (L.set (i*5+k) v) (.n 5))) eH cZ et aH eg dv a dr where
 k:=aC.put s.k (by have:=q.b7;have:=q.cH;have:=q.cD;have:=q.dS;omega) b (by simp) _
 r:=by rw[a6 (by have:=q.b7;have:=q.cH;have:=q.cD;have:=q.dS;omega)];exact s.r
 x:=by rw[a6 (by have:=q.cD;have:=q.dS;omega)];exact s.x
 c:=λh=>by
  obtain⟨_,c,g⟩:=s.c h;rw[b]at c;cases c;exact⟨_,bO,g.set d av v e f⟩
 w:=λh=>(s.w h).imp λ_ h=>⟨by rw[a6 (by have:=q.cD;have:=q.dS;omega)];exact h.1,h.2⟩
def VX:dL:=⟨0,[]⟩
end Go.Dam.C
namespace Go.Dam.C
open Go Go.Dam
variable{X:aA}{pm:Perm}{H ab bX ai:ae}{n:Nat}
theorem ey.nd{b k w:Nat}{f:Nat->List Value}{P:Nat->List Value->Prop}(h:0<k->∃L,H.get b=some (.cells L (.n w))/\ey L w k f)(d:∀i,i<k->P i (f i)):dE H (aZ b k) k w P:=by
 by_cases a:0<k
 ·obtain⟨L,e,f⟩:=h a;exact⟨_,k,dA a,λi c=>⟨b,0,_,L,_,rfl,e,rfl,by rw[Nat.zero_add];exact f.row c,d i c⟩⟩
 ·obtain rfl:k=0:=by omega
  exact⟨none,0,rfl,λi _=>by omega⟩
theorem jN.mono{aW a:Nat}{v:Value}(h:jN aW v)(b:a<=aW):jN a v:=by
 unfold jN at*
 split
 ·exact⟨a8 b h.1,h.2⟩
 ·trivial
theorem jN.aZ{aW b k:Nat}(h:aW<=b):jN aW (aZ b k):=by
 unfold C.aZ;split
 ·trivial
 ·rename_i _;exact⟨h,by omega⟩
theorem dE.ne{v:Value}{m w aW b:Nat}{P:Nat->List Value->Prop}(h:dE H v m w P)(a:jN aW v)(p:b<aW)(a':∀c y,c≠b->H.get c=some y->ab.get c=some y):dE ab v m w P:=by
 obtain⟨b,d,rfl,e⟩:=h.ex;refine⟨b,d,rfl,λi f=>?_⟩;obtain⟨c,g,y,j,k,rfl,l,m,n,o⟩:=e i f;have a:aW<=c:=a.1;exact⟨c,g,y,j,k,rfl,a' _ _ (by omega) l,m,n,o⟩
def ds(H:ae)(aW:Nat)(v:Value)(k w:Nat)(P:Nat->List Value->Prop):Prop:=
 ∃a b,v=.slice a k b/\(a=none->k=0)/\∀d,a=some d->∃b a y c,d=⟨b,a,none⟩/\aW<=b/\H.get b=some y/\rowOf y=some c/\a+k*w<=c.length/\∀i,i<k->∃b,bB c (a+i*w) w=some b/\P i b
theorem ds.aZ{aW k w:Nat}{v:Value}{P:Nat->List Value->Prop}(h:ds H aW v k w P):dE H v k w P:=by
 obtain⟨a,b,rfl,c,d⟩:=h;refine⟨a,b,rfl,λi e=>?_⟩
 cases a with
 | none=>have:=c rfl;omega
 | some _=>
   obtain⟨f,g,y,h,rfl,_,j,k,_,l⟩:=d _ rfl;obtain⟨a,m,n⟩:=l i e;exact⟨f,g,y,h,a,rfl,j,k,m,n⟩
theorem ds.imp{aW k w:Nat}{v:Value}{P a:Nat->List Value->Prop}(h:ds H aW v k w P)(e:Ext H ab)(b:∀i cs,i<k->P i cs->a i cs):ds ab aW v k w a:=by
 obtain⟨c,d,rfl,f,g⟩:=h;refine⟨c,d,rfl,f,λa c=>?_⟩;obtain⟨d,f,y,j,k,l,m,n,o,p⟩:=g a c;exact⟨d,f,y,j,k,l,e _ _ m,n,o,λi a=>(p i a).imp λcs q=>⟨q.1,b i cs a q.2⟩⟩
theorem ds.mono{aW a k w:Nat}{v:Value}{P b:Nat->List Value->Prop}(h:ds H aW v k w P)(c:a<=aW)(d:∀i cs,i<k->P i cs->b i cs):ds H a v k w b:=by
 obtain⟨e,f,rfl,g,j⟩:=h;refine⟨e,f,rfl,g,λa b=>?_⟩;obtain⟨e,f,y,g,k,l,m,n,o,p⟩:=j a b;exact⟨e,f,y,g,k,a8 c l,m,n,o,λi a=>(p i a).imp λcs q=>⟨q.1,d i cs a q.2⟩⟩
theorem ds.put{aW k w b:Nat}{v:Value}{P a:Nat->List Value->Prop}(h:ds H aW v k w P)(g:b<aW)(x:bz)(c:∀i cs,i<k->P i cs->a i cs):ds (H.put b x) aW v k w a:=by
 obtain⟨b,d,rfl,e,f⟩:=h;refine⟨b,d,rfl,e,λa b=>?_⟩;obtain⟨d,e,y,g,j,k,l,m,n,o⟩:=f a b;exact⟨d,e,y,g,j,k,by rw[a6 (by omega)];exact l,m,n,λi a=>(o i a).imp λcs q=>⟨q.1,c i cs a q.2⟩⟩
theorem ds.HQ{aW k w:Nat}{v:Value}{P:Nat->List Value->Prop}(h:dE H v k w P)(b:jN aW v):ds H aW v k w P:=by
 obtain⟨i,j,rfl,a⟩:=h.ex;refine⟨i,j,rfl,λe=>?_,λl e=>?_⟩
 ·subst e;apply o3;intro _;obtain⟨_,_,_,_,_,e,_⟩:=a 0 (by omega);cases e
 ·subst e;have h:aW<=l.block:=b.1;have i:0<k:=b.2;obtain⟨m,n,y,o,_,p,c,d,q,_⟩:=a (k-1) (by omega);cases p;refine⟨m,n,y,o,rfl,h,c,d,?_,λi b=>?_⟩
  ·have:=(sX q).1;have e:(k-1)*w+w=k*w:=by
    rw[<-j0];congr 1;omega
   omega
  ·obtain⟨_,_,_,_,k,r,f,g,s,t⟩:=a i b;cases r;rw[c]at f;cases f;rw[d]at g;cases g;exact⟨k,s,t⟩
def eS(H:ae)(ah a:Nat)(v:Value)(k w:Nat)(f:Nat->List Value):Prop:=
 v=.slice none 0 0/\k=0∨∃b L,ah<=b/\b<a/\v=.slice (some ⟨b,0,none⟩) k k/\H.get b=some (.cells L (.n w))/\ey L w k f
theorem eS.form{ah a k w:Nat}{v:Value}{f:Nat->List Value}(h:eS H ah a v k w f):∃a,v=.slice a k k:=by
 rcases h with⟨rfl,rfl⟩ | ⟨b,L,_,_,rfl,_⟩
 ·exact⟨_,rfl⟩
 ·exact⟨_,rfl⟩
theorem eS.one{ah a k w:Nat}{v:Value}{f:Nat->List Value}(h:eS H ah a v k w f):dd v=true/\v.cells=#[v]:=by
 obtain⟨_,rfl⟩:=h.form;exact⟨rfl,rfl⟩
theorem eS.pos{ah a k w:Nat}{v:Value}{f:Nat->List Value}(h:eS H ah a v k w f)(av:0<k):∃b L,ah<=b/\b<a/\v=.slice (some ⟨b,0,none⟩) k k/\H.get b=some (.cells L (.n w))/\ey L w k f:=by
 rcases h with⟨_,rfl⟩ | h
 ·omega
 ·exact h
theorem eS.ext{ah a k w:Nat}{v:Value}{f:Nat->List Value}(h:eS H ah a v k w f)(e:Ext H ab):eS ab ah a v k w f:=
 h.imp id λ⟨b,L,a,c,d,f,g⟩=>⟨b,L,a,c,d,e _ _ f,g⟩
theorem eS.mono{ah a b c k w:Nat}{v:Value}{f:Nat->List Value}(h:eS H ah a v k w f)(b7:b<=ah)(cH:a<=c):eS H b c v k w f:=
 h.imp id λ⟨b,L,a,c,d⟩=>⟨b,L,a8 b7 a,fK c cH,d⟩
theorem eS.put{ah a k w c:Nat}{v:Value}{f:Nat->List Value}(h:eS H ah a v k w f)(b:c<ah∨a<=c)(x:bz):eS (H.put c x) ah a v k w f:=
 h.imp id λ⟨b,L,a,c,d,e,f⟩=>⟨b,L,a,c,d,by rw[a6 (by omega)];exact e,f⟩
theorem eS.e{ah a k w:Nat}{v:Value}{f:Nat->List Value}{P:Nat->List Value->Prop}(h:eS H ah a v k w f)(c:∀i,i<k->P i (f i)):ds H ah v k w P:=by
 rcases h with⟨rfl,rfl⟩ | ⟨b,L,b7,cH,rfl,dS,gf⟩
 ·exact⟨none,0,rfl,λ_=>rfl,λ_ h=>(by cases h)⟩
 ·refine⟨_,_,rfl,λh=>(by cases h),λ_ h=>?_⟩;cases h;exact⟨b,0,_,L,rfl,b7,dS,rfl,by rw[gf.1];omega,λi a=>⟨f i,by rw[Nat.zero_add];exact gf.row a,c i a⟩⟩
theorem eS.congr{ah a k w:Nat}{v:Value}{f ic:Nat->List Value}(h:eS H ah a v k w f)(c:∀j,j<k->ic j=f j):eS H ah a v k w ic:=
 h.imp id λ⟨b,L,d,e,f,g,a⟩=>⟨b,L,d,e,f,g,a.1,λj b=>by rw[c j b];exact a.2 j b⟩
end Go.Dam.C
namespace Go.Dam.C
open Go Go.Dam
variable{X:aA}{pm:Perm}{H ab bX ai:ae}{n:Nat}
structure AY(X:aA):Prop extends sw X where
abbrev k3:Nat:=0
def sx(l:List dL)(i:Nat)(cs:List Value):Prop:=∃c,l[i]? = some c/\cs=c.cells
def gA(l:List a1)(i:Nat)(cs:List Value):Prop:=∃c,l[i]? = some c/\cs=c.cells
def UJ(H:ae)(aW:Nat)(l:List b9)(i:Nat)(cs:List Value):Prop:=∃r a,l[i]? = some r/\cs=r.cells a/\ds H aW a r.G.length 2 (sx r.G)
def mi(H:ae)(aW:Nat)(v:Value)(l:List b9):Prop:=ds H aW v l.length 5 (UJ H aW l)
def gD(H:ae)(aW:Nat)(v:Value)(aa:ar):Prop:=∃a b,v=.agg #[a,b]/\ds H aW a aa.a.length 5 (gA aa.a)/\mi H aW b aa.rows
theorem mi.ext{aW:Nat}{v:Value}{l:List b9}(h:mi H aW v l)(e:Ext H ab):mi ab aW v l:=ds.imp h e λ_ _ _ ⟨r,a,b,c,d⟩=>⟨r,a,b,c,d.imp e λ_ _ _ h=>h⟩
theorem mi.mono{aW a:Nat}{v:Value}{l:List b9}(h:mi H aW v l)(b:a<=aW):mi H a v l:=ds.mono h b λ_ _ _ ⟨r,a,c,d,e⟩=>⟨r,a,c,d,e.mono b λ_ _ _ h=>h⟩
theorem mi.put{aW b:Nat}{v:Value}{l:List b9}(h:mi H aW v l)(a:b<aW)(x:bz):mi (H.put b x) aW v l:=ds.put h a x λ_ _ _ ⟨r,c,d,e,f⟩=>⟨r,c,d,e,f.put a x λ_ _ _ h=>h⟩
theorem mi.rows{aW:Nat}{v:Value}{l:List b9}(h:mi H aW v l):jn H v l:=dE.imp (ds.aZ h) (λ_ _ e=>e) λ_ _ _ ⟨r,a,b,c,d⟩=>⟨r,a,b,c,d.aZ⟩
theorem gD.ext{aW:Nat}{v:Value}{aa:ar}(h:gD H aW v aa)(e:Ext H ab):gD ab aW v aa:=by
 obtain⟨a,b,rfl,c,d⟩:=h;exact⟨a,b,rfl,c.imp e λ_ _ _ h=>h,d.ext e⟩
theorem gD.mono{aW a:Nat}{v:Value}{aa:ar}(h:gD H aW v aa)(b:a<=aW):gD H a v aa:=by
 obtain⟨c,d,rfl,e,f⟩:=h;exact⟨c,d,rfl,e.mono b λ_ _ _ h=>h,f.mono b⟩
theorem gD.put{aW b:Nat}{v:Value}{aa:ar}(h:gD H aW v aa)(a:b<aW)(x:bz):gD (H.put b x) aW v aa:=by
 obtain⟨b,c,rfl,d,e⟩:=h;exact⟨b,c,rfl,d.put a x λ_ _ _ h=>h,e.put a x⟩
theorem gD.aa{aW:Nat}{v:Value}{aa:ar}(h:gD H aW v aa):kA H v aa:=by
 obtain⟨a,b,rfl,c,d⟩:=h;exact⟨a,b,rfl,c.aZ,d.rows⟩
theorem mh.e{aW:Nat}{v:Value}{aa:ar}(h:mh H aW v aa):gD H aW v aa:=by
 obtain⟨a,b,rfl,c,d,e,f⟩:=h;exact⟨a,b,rfl,.HQ c e,ds.mono (.HQ d f) (bc _) λ_ _ _ ⟨r,a,b,c,d,e⟩=>⟨r,a,b,c,.HQ d e⟩⟩
def x8(H:ae)(aW:Nat)(r:Value)(aa:ar):Prop:=∃(c d:Value) (a b:Nat) (e:Nat->Value),r=.agg #[c,d]/\aW<=a/\a<=b/\eS H aW a c aa.a.length 5 (λj=>(aa.ad j).cells)/\eS H a b d aa.rows.length 5 (λj=>(aa.row j).cells (e j))/\∀j,j<aa.rows.length->ds H b (e j) (aa.row j).G.length 2 (sx (aa.row j).G)
theorem x8.ja{aW:Nat}{r:Value}{aa:ar}(h:x8 H aW r aa):∃b c a,r=.agg #[b,c]/\aW<=a/\eS H aW a b aa.a.length 5 (λj=>(aa.ad j).cells)/\mi H a c aa.rows:=by
 obtain⟨b,c,a,_,_,rfl,e,f,g,i,k⟩:=h;exact⟨b,c,a,rfl,e,g,i.e λj d=>⟨_,_,ar.rowAt d,rfl,(k j d).mono f λ_ _ _ h=>h⟩⟩
theorem x8.e{aW:Nat}{r:Value}{aa:ar}(h:x8 H aW r aa):gD H aW r aa:=by
 obtain⟨a,b,_,rfl,c,d,e⟩:=h.ja;exact⟨a,b,rfl,d.e λ_ a=>⟨_,ar.kc a,rfl⟩,e.mono c⟩
structure n9(pm:Perm)(ai H:ae)(bF cZ aW cw gg:Nat)(pq mb:Value)(aa:ar)(dr:Nat->List Value):Prop where
 k:K pm ai H
 r:H.get bF=some (.cells [.slice none 0 0,.slice none 0 0] (.t k3))
 x:H.get cZ=some (.cells [pq,mb] (.t k3))
 c:eS H aW cw pq aa.a.length 5 λj=>(aa.ad j).cells
 w:eS H cw gg mb aa.rows.length 5 dr
 jB:gg<=H.next
structure Ey(ai:ae)(bF cZ aW cw gg:Nat):Prop where
 b7:ai.next<=bF
 cH:bF<cZ
 cD:cZ<aW
 dS:aW<=cw
 gf:cw<=gg
variable{bF cZ aW cw gg:Nat}{pq mb:Value}{aa:ar}{dr:Nat->List Value}
theorem n9.up(s:n9 pm ai H bF cZ aW cw gg pq mb aa dr)(u:K pm H ab):n9 pm ai ab bF cZ aW cw gg pq mb aa dr where
 k:=K.trans s.k u
 r:=u.some s.k.q s.r
 x:=u.some s.k.q s.x
 c:=s.c.ext (u.ext s.k.q)
 w:=s.w.ext (u.ext s.k.q)
 jB:=a8 s.jB u.next
theorem n9.row(s:n9 pm ai H bF cZ aW cw gg pq mb aa dr)(o:Ey ai bF cZ aW cw gg){b:Nat->List Value}{i k a:Nat}{v:Value}(h:i<aa.rows.length)(av:k<5)(l:b i=(dr i).set k v)(m:∀j,j<aa.rows.length->j≠i->b j=dr j){L:List Value}(c:mb=.slice (some ⟨a,0,none⟩) aa.rows.length aa.rows.length)(d:H.get a=some (.cells L (.n 5))):
 n9 pm ai (H.put a (.cells (L.set (i*5+k) v) (.n 5))) bF cZ aW cw gg pq mb aa b:=by
 obtain⟨_,_,e,j,f,g,n⟩:=s.w.pos (by omega);rw[c]at f;cases f;rw[d]at g;cases g;have b:=o.b7;have b:=o.cH;have b:=o.cD;have b:=o.dS;exact⟨aC.put s.k (by omega) d (by simp) _,by rw[a6 (by omega)];exact s.r,by rw[a6 (by omega)];exact s.x,s.c.put (.inr e) _,.inr ⟨a,_,e,j,c,bO,n.set h av v l m⟩,s.jB⟩
end Go.Dam.C
namespace Go.Dam.C
open Go Go.Dam
variable{X:aA}{pm:Perm}{H ab bX ai:ae}{n:Nat}
structure EF(X:aA):Prop extends AY X where
abbrev D6:Nat:=0
def pI(H:ae)(p aW:Nat)(aa:ar):Prop:=∃a b,H.get p=some (.cells [a,b] (.t D6))/\gD H aW (.agg #[a,b]) aa
theorem pI.ext{p aW:Nat}{aa:ar}(h:pI H p aW aa)(e:Ext H ab):pI ab p aW aa:=by
 obtain⟨a,b,c,d⟩:=h;exact⟨a,b,e _ _ c,d.ext e⟩
theorem pI.mono{p aW a:Nat}{aa:ar}(h:pI H p aW aa)(e:a<=aW):pI H p a aa:=by
 obtain⟨a,b,c,d⟩:=h;exact⟨a,b,c,d.mono e⟩
theorem pI.put{p c aW:Nat}{aa:ar}(h:pI H p aW aa)(a:c<aW)(a:c≠p)(x:bz):pI (H.put c x) p aW aa:=by
 obtain⟨b,c,d,e⟩:=h;exact⟨b,c,by rw[a6 (Ne.symm a)];exact d,e.put (by omega) x⟩
structure e2(pm:Perm)(p:Nat)(H ab:ae):Prop where
 q:bl pm ab
 next:H.next<=ab.next
 get:∀b,b<H.next->b≠p->ab.get b=H.get b
 cf:∀b o,H.get b=some (.cf o)->ab.get b=some (.cf o)
theorem e2.trans{p:Nat}(k:e2 pm p H ab)(l:e2 pm p ab bX):e2 pm p H bX:=⟨l.q,a8 k.next l.next,λb a c=>(l.get b (fK a k.next) c).trans (k.get b a c),λb o h=>l.cf b o (k.cf b o h)⟩
theorem e2.put{p:Nat}{cs:List Value}{z:cM}(g:bl pm H)(a':H.get p=some (.cells cs z))(x:bz):e2 pm p H (H.put p x):=by
 have u:=aC.put (n:=p) (.refl g) (bc _) a' (by simp) x;exact⟨u.q,u.next,λ_ _ a=>a6 a,u.cf⟩
theorem e2.some{p b:Nat}{y:bz}(k:e2 pm p H ab)(g:bl pm H)(a:b≠p)(h:H.get b=some y):ab.get b=some y:=(k.get b (g.lt h) a).trans h
theorem e2.up{p:Nat}(k:e2 pm p H ab)(a:n<=p)(a:n<=H.next):aC pm n H ab:=⟨k.q,k.next,λb _=>k.get b (by omega) (by omega),k.cf⟩
theorem e2.fin{p c:Nat}{cs:List Value}{z:cM}(k:e2 pm p H ab)(a:H.next<=c)(a':ab.get c=Option.some (.cells cs z))(x:bz):e2 pm p H (ab.put c x):=by
 have u:=aC.put (n:=0) (.refl k.q) (Nat.zero_le _) a' (by simp) x;exact⟨u.q,a8 k.next u.next,λb a c=>by rw[a6 (by omega)];exact k.get b a c,λb o h=>u.cf b o (k.cf b o h)⟩
structure nw(X:aA):Prop extends EF X where
def hh(H:ae)(A:Nat->Prop)(v:Value)(k w:Nat)(P:Nat->List Value->Prop):Prop:=
 ∃a b,v=.slice a k b/\(a=none->k=0)/\∀d,a=some d->∃b a y c,d=⟨b,a,none⟩/\A b/\H.get b=some y/\rowOf y=some c/\a+k*w<=c.length/\∀i,i<k->∃b,bB c (a+i*w) w=some b/\P i b
theorem ds.p{aW k w:Nat}{v:Value}{P:Nat->List Value->Prop}(h:ds H aW v k w P):hh H (λb=>aW<=b) v k w P:=h
theorem hh.e{A:Nat->Prop}{k w:Nat}{v:Value}{P:Nat->List Value->Prop}(h:hh H A v k w P):ds H 0 v k w P:=by
 obtain⟨a,b,e,c,d⟩:=h;exact⟨a,b,e,c,λa b=>(d a b).imp λ_ h=>h.imp λ_ h=>h.imp λ_ h=>h.imp λ_ h=>⟨h.1,Nat.zero_le _,h.2.2⟩⟩
theorem hh.imp{A iS:Nat->Prop}{k w:Nat}{v:Value}{P a:Nat->List Value->Prop}(h:hh H A v k w P)(e:∀b y,A b->H.get b=some y->iS b/\ab.get b=some y)(c:∀i cs,i<k->P i cs->a i cs):hh ab iS v k w a:=by
 obtain⟨a,d,f,g,j⟩:=h;refine⟨a,d,f,g,λa d=>?_⟩;obtain⟨b,f,y,g,k,l,m,n,o,p⟩:=j a d;obtain⟨a,d⟩:=e b y l m;exact⟨b,f,y,g,k,a,d,n,o,λi a=>(p i a).imp λcs q=>⟨q.1,c i cs a q.2⟩⟩
def j8(H:ae)(A:Nat->Prop)(v:Value)(l:List (List UInt8)):Prop:=fp H v l/\∀b a m c,v=.slice (some ⟨b,a,none⟩) m c->A b/\∃y,H.get b=some y
theorem h7.p{aW:Nat}{v:Value}{l:List (List UInt8)}(h:h7 H aW v l):j8 H (λb=>aW<=b) v l:=h
theorem j8.imp{A iS:Nat->Prop}{v:Value}{l:List (List UInt8)}(h:j8 H A v l)(e:∀b y,A b->H.get b=some y->iS b/\ab.get b=some y):j8 ab iS v l:=by
 refine⟨?_,λb o m c q=>?_⟩
 ·obtain⟨d,f,rfl,g⟩:=h.1.ex;refine⟨d,f,rfl,λi j=>?_⟩;obtain⟨b,a,y,k,u,rfl,l,n⟩:=g i j;exact⟨b,a,y,k,u,rfl,(e _ _ (h.2 b a _ _ rfl).1 l).2,n⟩
 ·obtain⟨_,y,_⟩:=h.2 b o m c q;grind
theorem j8.form{A:Nat->Prop}{v:Value}{l:List (List UInt8)}(h:j8 H A v l):∃a cap,v=.slice a l.length cap:=by
 obtain⟨a,cap,_,_⟩:=h.1.ex;grind
abbrev h1:Nat:=0
def cz.cells(x:cz)(a:Value):List Value:=[.int .i64 x.ad,ak x.at',.int .i64 x.l,.int .i64 x.r,a]
def e7(p a c b:Nat):Prop:=b≠p/\b≠a/\b≠c
def np(p a c b:Nat):Prop:=p<b/\b≠a/\b≠c
theorem np.f{p a c b:Nat}(h:np p a c b):e7 p a c b:=⟨by have:=h.1;omega,h.2⟩
def ou(H:ae)(A:Nat->Prop)(b a:Nat)(v:Value)(l:List (Nat×List a1)):Prop:=
 v=.slice none 0 0/\l=[]/\a=0∨v=.slice (some ⟨b,0,none⟩) l.length a/\l.length<=a/\∃L,H.get b=some (.cells L (.n 2))/\L.length=a*2/\
  ∀i (_:i<l.length),L[i*2]? = some (.int .i64 (l[i].1:Int))/\∃a,L[i*2+1]? = some a/\hh H A a l[i].2.length 5 (gA l[i].2)
def gp(H:ae)(A:Nat->Prop)(a:Nat)(v:Value)(l:List cz):Prop:=
 v=.slice none 0 0/\l=[]∨v=.slice (some ⟨a,0,none⟩) l.length l.length/\∃L,H.get a=some (.cells L (.n 5))/\∃f,ey L 5 l.length f/\∀i (_:i<l.length),∃a,f i=l[i].cells a/\j8 H A a l[i].d
structure fY(H:ae)(p:Nat)(cL dF:Value)(deep:Bool)(c3:Nat)(s:bV)(aX aH cI:Nat):Prop where
 ge:p<=aX/\p<=aH
 ac3:(∃y,H.get aX=some y)/\∃y,H.get aH=some y
 ex:∃bt SB TI TD,H.get p=some (.cells [cL,dF,.bool deep,.int .i64 (c3:Int),bt,SB,.int .i64 s.L.st,ak s.L.val,TI,.slice none 0 0,.slice none 0 0,TD] (.t h1))/\
  ou H (e7 p aX aH) aX cI bt s.todo/\gp H (np p aX aH) aH SB s.tree/\j8 H (np p aX aH) TI s.L.x/\fv H TD s.val
end Go.Dam.C
namespace Go.Dam.C
def rg(n i:Nat):Nat:=n/10000^i%10000
def rs(f:Nat->Int):Nat->Int
 | 0=>0
 | k+1=>rs f k+f k*10000^k
def cS(f:Nat->Int)(p:Nat)(v:Int):Nat->Int:=λi=>if i=p then v else f i
@[simp] theorem k0{f:Nat->Int}{p:Nat}{v:Int}:cS f p v p=v:=aL rfl
theorem iX{f:Nat->Int}{p i:Nat}{v:Int}(h:i≠p):cS f p v i=f i:=aw h
theorem kY{n i:Nat}:rg n i<10000:=o1 _ (by decide)
theorem sq(k:Nat):0<10000^k:=u6 (by decide)
theorem Fm(n i:Nat):n/10000^i=10000*(n/10000^(i+1))+rg n i:=by
 rw[eB,<-zL,rg];omega
theorem sr{n k i:Nat}(h:n<10000^k)(a:k<=i):rg n i=0:=by
 rw[rg,u4 (fK h (hX (by decide) a))]
theorem pa(n i:Nat):n%10000^(i+1)=n%10000^i+rg n i*10000^i:=by
 rw[Nat.mod_pow_succ,rg,eZ]
theorem Fo{f g:Nat->Int}:∀{k:Nat},(∀i,i<k->f i=g i)->rs f k=rs g k
 | 0,_=>rfl
 | k+1,h=>by rw[rs,rs,Fo λi _=>h i (by omega),h k (by omega)]
theorem Iu{f:Nat->Int}{p:Nat}{v:Int}{k:Nat}(h:k<=p):rs (cS f p v) k=rs f k:=Fo λ_ _=>iX (by omega)
theorem nh{f:Nat->Int}{p:Nat}{v:Int}:∀{k:Nat},p<k->rs (cS f p v) k=rs f k+(v-f p)*10000^p
 | k+1,_=>by
   rw[rs,rs];by_cases e:p=k
   ·subst e;rw[Iu (bc _),k0];grind
   ·rw[nh (show p<k by omega),iX (by omega)];grind
theorem Fp(n:Nat):∀k:Nat,rs (λi=>(rg n i:Int)) k=((n%10000^k:Nat):Int)
 | 0=>by simp[rs,Nat.mod_one]
 | k+1=>by
   rw[rs,Fp n k,pa];simp
theorem ui{f:Nat->Int}:∀{k K:Nat},k<=K->(∀i,k<=i->i<K->f i=0)->rs f K=rs f k
 | k,0,_,_=>by obtain rfl:k=0:=by omega
               rfl
 | k,K+1,_,a=>by
   by_cases e:k=K+1
   ·rw[e]
   ·rw[rs,a K (by omega) (by omega),ui (show k<=K by omega) λi b _=>a i b (by omega)];simp
theorem Fq{f:Nat->Int}:∀{k:Nat},(∀i,i<k->0<=f i)->0<=rs f k
 | 0,_=>Int.le_refl _
 | k+1,h=>by
   rw[rs];have a:=Fq (f:=f) (k:=k) λi _=>h i (by omega);have a:=Int.mul_nonneg (h k (by omega)) (show(0:Int)<=10000^k by exact Int.le_of_lt (Int.pow_pos (by decide)));omega
theorem FM{f:Nat->Int}:∀{k:Nat},(∀i,i<k->0<=f i/\f i<10000)->rs f k<10000^k
 | 0,_=>by simp[rs]
 | k+1,h=>by
   rw[rs,Int.pow_succ];have a:=FM (f:=f) (k:=k) λi _=>h i (by omega);have a:f k*10000^k<=9999*10000^k:=I6 (by have:=(h k (by omega)).2;omega) (Int.le_of_lt (Int.pow_pos (by decide)));omega
theorem HA{m k i:Nat}(c:Nat)(a:i<k):rg (m+c*10000^k) i=rg m i:=by
 obtain⟨d,rfl⟩:∃d,k=i+1+d:=⟨k-(i+1),by omega⟩;unfold rg;have e:m+c*10000^(i+1+d)=m+10000^i*(10000*(c*10000^d)):=by
  rw[hG,eB];congr 1;ac_rfl
 rw[e,I9 _ _ (sq i),Nat.add_mul_mod_self_left]
theorem HF{m k:Nat}(c:Nat)(a:m<10000^k)(b:c<10000):rg (m+c*10000^k) k=c:=by
 unfold rg;rw[eZ,I9 _ _ (sq k),u4 a,Nat.zero_add,n1 b]
theorem FL{f:Nat->Int}:∀{k n:Nat},(∀i,i<k->0<=f i/\f i<10000)->rs f k=(n:Int)->n<10000^k/\∀i,i<k->f i=(rg n i:Int)
 | 0,n,_,e=>by
   have:n=0:=by simp[rs]at e;omega
   subst this;exact⟨by decide,λi a=>absurd a (gS _)⟩
 | k+1,n,h,e=>by
   have b:0<=rs f k:=Fq λi b=>(h i (by omega)).1;obtain⟨m,d⟩:∃m:Nat,rs f k=(m:Int):=⟨(rs f k).toNat,by omega⟩;obtain⟨j,l⟩:=FL (k:=k) (λi b=>h i (by omega)) d;obtain⟨c,g⟩:∃c:Nat,f k=(c:Int):=⟨(f k).toNat,by have:=(h k (by omega)).1;omega⟩;have o:c<10000:=by have:=(h k (by omega)).2;omega
   have a:n=m+c*10000^k:=by
    rw[rs,d,g]at e;have d:((m+c*10000^k:Nat):Int)=(n:Int):=by rw[<-e];simp
    exact(Int.ofNat.inj d).symm
   refine⟨?_,λi b=>?_⟩
   ·rw[a,eB];have:c*10000^k<=9999*10000^k:=fV _ (by omega);omega
   ·by_cases e:i=k
    ·subst e;rw[g,a,HF c j o]
    ·rw[l i (by omega),a,HA c (by omega)]
def kG(k n:Nat):Prop:=n<10000^k/\(k≠0->10000^(k-1)<=n)
theorem kG.nE{k n:Nat}(h:kG k n):k=0↔n=0:=by
 constructor
 ·intro e;subst e;have:=h.1;simp at this;exact this
 ·intro _;apply o3;intro a;have:=h.2 a;have:=sq (k-1);omega
theorem kG.top{k n:Nat}(h:kG k n)(av:k≠0):rg n (k-1)≠0:=by
 have b:=h.2 av;have a:=h.1;have e:k=k-1+1:=by omega
 rw[e,eB]at a;unfold rg;have c:n/10000^(k-1)<10000:=ts a;rw[n1 c];exact Nat.ne_of_gt (Nat.div_pos b (sq _))
theorem kG.one{k n:Nat}(h:kG k n):(k=1/\rg n 0=1)↔n=1:=by
 constructor
 ·rintro⟨rfl,e⟩;have:=h.1;simp[rg]at e;simp at this;omega
 ·rintro rfl;have a:k≠0:=λe=>by have:=h.nE.1 e;omega
  refine⟨?_,by decide⟩;apply o3;intro _;have b:=h.2 a;have:10000^1<=10000^(k-1):=hX (by decide) (by omega);simp at this;omega
theorem kG.uniq{k dy n:Nat}(h:kG k n)(g:kG dy n):k=dy:=by
 by_cases e:n=0
 ·rw[h.nE.2 e,g.nE.2 e]
 ·have b:k≠0:=λa=>e (h.nE.1 a);have c:dy≠0:=λa=>e (g.nE.1 a);have a:=h.2 b;have a:=g.2 c;apply o3;intro d
  rcases Nat.lt_or_gt_of_ne d with q | q
  ·have:=hX (show 0<10000 by decide) (show k<=dy-1 by omega);have:=h.1;omega
  ·have:=hX (show 0<10000 by decide) (show dy<=k-1 by omega);have:=g.1;omega
theorem kG.le{k n L:Nat}(h:kG k n)(g:n<10000^L):k<=L:=by
 apply o3;intro _;have a:=h.2 (by omega);have:=hX (show 0<10000 by decide) (show L<=k-1 by omega);omega
theorem kG.trim{f:Nat->Int}{k K n:Nat}(av:k<=K)(d:∀i,i<K->0<=f i/\f i<10000)(a:rs f K=(n:Int))(e:∀i,k<=i->i<K->f i=0)(g:k≠0->f (k-1)≠0):kG k n/\∀i,i<k->f i=(rg n i:Int):=by
 rw[ui av e]at a;obtain⟨e,b⟩:=FL (λi _=>d i (by omega)) a;refine⟨⟨e,λa=>?_⟩,b⟩;have c:=g a;obtain⟨j,rfl⟩:∃j,k=j+1:=⟨k-1,by omega⟩;have a:=b j (by omega);simp only[Nat.add_sub_cancel]at c|-;apply o3;intro _;apply c;rw[a,rg,u4 (by omega)];rfl
theorem FN{g:Nat->Int}{d:Int}:∀k:Nat,rs (λi=>if i=0 then d else g (i-1)) (k+1)=d+10000*rs g k
 | 0=>by simp[rs]
 | k+1=>by
   rw[rs,FN k,rs];simp only[Nat.add_sub_cancel,aw (Nat.succ_ne_zero k),Int.pow_succ];grind
theorem F2{m n i:Nat}(h:m/10000^(i+1)=n/10000^(i+1)):(rg m i<rg n i->m<n)/\(rg n i<rg m i->n<m)/\(rg m i=rg n i->m/10000^i=n/10000^i):=by
 have a:=Fm m i;have a:=Fm n i;refine⟨λe=>?_,λe=>?_,λe=>by omega⟩
 ·apply o3;intro a;have:=Nat.div_le_div_right (c:=10000^i) (Nat.le_of_not_lt a);omega
 ·apply o3;intro a;have:=Nat.div_le_div_right (c:=10000^i) (Nat.le_of_not_lt a);omega
theorem FJ(k:Nat):(0:Int)<10000^k:=Int.pow_pos (by decide)
theorem Hz(k:Nat):((10000^k:Nat):Int)=10000^k:=by simp
theorem Iv{f:Nat->Int}{p:Nat}{u v:Int}:cS (cS f p u) p v=cS f p v:=by
 funext i;unfold cS;split<;>rfl
structure od(m n K i:Nat)(f:Nat->Int):Prop where
 s:rs f K=((m%10000^i+n%10000^i:Nat):Int)
 d:∀j,j<i->0<=f j/\f j<10000
 z:∀j,i<j->f j=0
 c:0<=f i/\f i<=1
theorem od.zero{m n K:Nat}:od m n K 0 λ_=>0:=by
 refine⟨?_,λ_ h=>absurd h (gS _),λ_ _=>rfl,by decide⟩;rw[ui (Nat.zero_le K) λ_ _ _=>rfl];simp[rs,Nat.mod_one]
theorem od.ah{m n K i:Nat}{f:Nat->Int}(h:od m n K i f)(a:i<K)(b:f i+rg m i+rg n i<10000):od m n K (i+1) (cS f i (f i+rg m i+rg n i)):=by
 refine⟨?_,λj b=>?_,λj b=>?_,?_⟩
 ·rw[nh a,h.s,pa,pa];simp;grind
 ·by_cases e:j=i
  ·subst e;rw[k0];have:=h.c;omega
  ·rw[iX e];exact h.d j (by omega)
 ·rw[iX (by omega)];exact h.z j (by omega)
 ·rw[iX (by omega),h.z _ (by omega)];decide
theorem od.az{m n K i:Nat}{f:Nat->Int}(h:od m n K i f)(a:i+1<K)(b:10000<=f i+rg m i+rg n i):od m n K (i+1) (cS (cS f i (f i+rg m i+rg n i-10000)) (i+1) (f (i+1)+1)):=by
 have b:=@kY m i;have b:=@kY n i;refine⟨?_,λj b=>?_,λj b=>?_,?_⟩
 ·rw[nh a,nh (by omega),h.s,pa,pa,iX (by omega),Int.pow_succ];simp;grind
 ·rw[iX (by omega)];by_cases e:j=i
  ·subst e;rw[k0];have:=h.c;omega
  ·rw[iX e];exact h.d j (by omega)
 ·rw[iX (by omega),iX (by omega)];exact h.z j (by omega)
 ·rw[k0,h.z _ (by omega)];decide
theorem od.top{m n K i:Nat}{f:Nat->Int}(h:od m n K i f)(a:m<10000^i)(b:n<10000^i):f i+rg m i+rg n i<10000:=by
 rw[sr a (bc _),sr b (bc _)];have:=h.c;omega
structure ma(m n K i:Nat)(f:Nat->Int):Prop where
 s:rs f K=(m:Int)-((n%10000^i:Nat):Int)
 d:∀j,j<i->0<=f j/\f j<10000
 r:∀j,i<j->j<K->f j=rg m j
 c:i<K->f i=rg m i∨f i=rg m i-1
theorem ma.zero{m n K:Nat}{f:Nat->Int}(b:m<10000^K)(a:∀j,j<K->f j=rg m j):ma m n K 0 f:=by
 refine⟨?_,λj h=>absurd h (gS _),λj _ h=>a j h,λh=>.inl (a 0 h)⟩;rw[Fo a,Fp,n1 b];simp[Nat.mod_one]
theorem ma.ah{m n K i:Nat}{f:Nat->Int}(h:ma m n K i f)(b:i<K)(c:0<=f i-rg n i):ma m n K (i+1) (cS f i (f i-rg n i)):=by
 have c:=@kY m i;have c:=h.c b;refine⟨?_,λj c=>?_,λj c a=>?_,λa=>?_⟩
 ·rw[nh b,h.s,pa];simp;grind
 ·by_cases e:j=i
  ·subst e;rw[k0];omega
  ·rw[iX e];exact h.d j (by omega)
 ·rw[iX (by omega)];exact h.r j (by omega) a
 ·rw[iX (by omega)];exact .inl (h.r _ (by omega) a)
theorem ma.az{m n K i:Nat}{f:Nat->Int}(h:ma m n K i f)(b:i+1<K)(c:f i-rg n i<0):ma m n K (i+1) (cS (cS f i (f i-rg n i+10000)) (i+1) (f (i+1)-1)):=by
 have c:=@kY m i;have c:=@kY n i;have c:=h.c (by omega);refine⟨?_,λj c=>?_,λj c a=>?_,λa=>?_⟩
 ·rw[nh b,nh (by omega),h.s,pa,iX (by omega),Int.pow_succ];simp;grind
 ·rw[iX (by omega)];by_cases e:j=i
  ·subst e;rw[k0];omega
  ·rw[iX e];exact h.d j (by omega)
 ·rw[iX (by omega),iX (by omega)];exact h.r j (by omega) a
 ·rw[k0,h.r _ (by omega) a];exact .inr rfl
theorem ma.top{m n i:Nat}{f:Nat->Int}(h:ma m n (i+1) i f)(a:n<=m)(a:m<10000^(i+1)):0<=f i-rg n i:=by
 have e:=h.s;have a:=FM (f:=f) (k:=i) λj a=>h.d j a;have a:n%10000^i+rg n i*10000^i=n:=by rw[<-pa,n1 (by omega)]
 rw[rs]at e;have b:((n%10000^i:Nat):Int)+rg n i*10000^i=n:=by
  have:=congrArg (λx:Nat=>(x:Int)) a;simp only[Int.natCast_add,zW,Int.natCast_pow,Int.cast_ofNat_Int]at this;exact this
 apply o3;intro _;have a:(f i-rg n i)*10000^i<=(-1)*10000^i:=I6 (by omega) (Int.le_of_lt (FJ i));have a:(f i-rg n i)*10000^i=f i*10000^i-rg n i*10000^i:=Int.sub_mul ..;omega
structure lD(m n kf K i k:Nat)(f:Nat->Int):Prop where
 s:rs f K=((m%10000^i*n+rg m i*10000^i*(n%10000^k):Nat):Int)
 p:∀j,0<=f j
 b:∀j,j≠i+k->f j<=10000
 e:f (i+k)<=20000
 z:∀j,i+kf<j->f j=0
 y:k<kf->f (i+kf)=0
 w:k=kf->f (i+kf)<=10000
 v:k=0->f (i+k)<=10000
theorem lD.zero{m n a K:Nat}:lD m n a K 0 0 λ_=>0:=by
 refine⟨?_,λ_=>Int.le_refl _,λ_ _=>by decide,by decide,λ_ _=>rfl,λ_=>rfl,λ_=>by decide,λ_=>by decide⟩;rw[ui (Nat.zero_le K) λ_ _ _=>rfl];simp[rs,Nat.mod_one]
theorem lD.step{m n a K i k:Nat}{f:Nat->Int}(h:lD m n a K i k f)(av:k<a)(p:i+k+1<K){x:Int}(d:x=f (i+k)+rg m i*rg n k):
 0<=x/\x<=100000001/\lD m n a K i (k+1) (cS (cS (cS f (i+k) x) (i+k+1) (f (i+k+1)+x/10000)) (i+k) (x%10000)):=by
 have g:=@kY m i;have g:=@kY n k;have g:rg m i*rg n k<=9999*9999:=gk (by omega) (by omega);have g:((rg m i*rg n k:Nat):Int)=(rg m i:Int)*rg n k:=by simp
 have g:=h.p (i+k);have g:=h.e;have g:0<=x/\x<=100000001:=by omega
 have q:=h.p (i+k+1);have q:=h.b (i+k+1) (by omega);refine⟨g.1,g.2,?_⟩;have l:cS (cS (cS f (i+k) x) (i+k+1) (f (i+k+1)+x/10000)) (i+k) (x%10000) (i+k)=x%10000:=k0;have c:cS (cS (cS f (i+k) x) (i+k+1) (f (i+k+1)+x/10000)) (i+k) (x%10000) (i+k+1)=f (i+k+1)+x/10000:=by rw[iX (by omega),k0]
 have b:∀j,j≠i+k->j≠i+k+1->cS (cS (cS f (i+k) x) (i+k+1) (f (i+k+1)+x/10000)) (i+k) (x%10000) j=f j:=λj g q=>by rw[iX g,iX q,iX g]
 refine⟨?_,λj=>?_,λj o=>?_,?_,λj o=>?_,λg=>?_,λg=>?_,λh=>absurd h (Nat.succ_ne_zero k)⟩
 ·rw[nh (by omega),nh p,nh (by omega),h.s,pa n k,iX (show i+k+1≠i+k by omega),iX (show i+k≠i+k+1 by omega),k0,Int.pow_succ,d];have e:=Int.emod_add_mul_ediv x 10000;rw[<-d];simp only[Int.natCast_add,zW,Int.natCast_pow,Int.cast_ofNat_Int];have d:(10000:Int)^(i+k)=10000^i*10000^k:=Int.pow_add ..;grind
 ·by_cases e:j=i+k
  ·subst e;rw[l];omega
  ·by_cases f:j=i+k+1
   ·subst f;rw[c];omega
   ·rw[b j e f];exact h.p j
 ·by_cases e:j=i+k
  ·subst e;rw[l];omega
  ·rw[b j e (by omega)];exact h.b j e
 ·rw[show i+(k+1)=i+k+1 by omega,c];omega
 ·rw[b j (by omega) (by omega)];exact h.z j o
 ·rw[b _ (by omega) (by omega)];exact h.y av
 ·have:=h.y av;rw[show i+a=i+k+1 by omega]at this|-;rw[c,this];omega
theorem lD.row{m n a K i:Nat}{f:Nat->Int}(h:lD m n a K i a f)(c:n<10000^a):lD m n a K (i+1) 0 f:=by
 have b:∀j,f j<=10000:=λj=>by
  by_cases e:j=i+a
  ·subst e;exact h.w rfl
  ·exact h.b j e
 refine⟨?_,h.p,λj _=>b j,by have:=b (i+1+0);omega,λj _=>h.z j (by omega),λ_=>h.z _ (by omega),λ_=>b _,λ_=>b _⟩;rw[h.s,pa m i,n1 c,rP];simp[Nat.mod_one]
structure si(P K i:Nat)(f:Nat->Int):Prop where
 s:rs f K=(P:Int)
 d:∀j,j<i->0<=f j/\f j<10000
 p:∀j,0<=f j
 b:∀j,i<j->f j<=10000
 c:f i<=10001
theorem lD.fin{m n a c K:Nat}{f:Nat->Int}(h:lD m n c K a 0 f)(d:m<10000^a):si (m*n) K 0 f:=by
 have b:∀j,f j<=10000:=λj=>by
  by_cases e:j=a+0
  ·subst e;exact h.v rfl
  ·exact h.b j e
 refine⟨?_,λj a=>absurd a (gS _),h.p,λj _=>b j,by have:=b 0;omega⟩;rw[h.s,n1 d];simp[Nat.mod_one]
theorem si.step{P K i:Nat}{f:Nat->Int}(h:si P K i f)(g:i+1<K):si P K (i+1) (cS (cS f (i+1) (f (i+1)+f i/10000)) i (f i%10000)):=by
 have k:=h.p i;have k:=h.p (i+1);have k:=h.c;have k:=h.b (i+1) (by omega);have b:cS (cS f (i+1) (f (i+1)+f i/10000)) i (f i%10000) i=f i%10000:=k0;have c:cS (cS f (i+1) (f (i+1)+f i/10000)) i (f i%10000) (i+1)=f (i+1)+f i/10000:=by rw[iX (by omega),k0]
 have a:∀j,j≠i->j≠i+1->cS (cS f (i+1) (f (i+1)+f i/10000)) i (f i%10000) j=f j:=λj k l=>by rw[iX k,iX l]
 refine⟨?_,λj k=>?_,λj=>?_,λj k=>?_,?_⟩
 ·rw[nh (by omega),nh g,h.s,iX (show i≠i+1 by omega),Int.pow_succ];have d:=Int.emod_add_mul_ediv (f i) 10000;grind
 ·by_cases e:j=i
  ·subst e;rw[b];omega
  ·rw[a j e (by omega)];exact h.d j (by omega)
 ·by_cases e:j=i
  ·subst e;rw[b];omega
  ·by_cases d:j=i+1
   ·subst d;rw[c];omega
   ·rw[a j e d];exact h.p j
 ·rw[a j (by omega) (by omega)];exact h.b j (by omega)
 ·rw[c];omega
theorem si.fin{P i:Nat}{f:Nat->Int}(h:si P (i+1) i f)(a:P<10000^i):f i=0:=by
 have e:=h.s;rw[rs]at e;have a:0<=rs f i:=Fq λj _=>h.p j;have a:=h.p i;apply o3;intro _;have a:1*10000^i<=f i*10000^i:=I6 (by omega) (Int.le_of_lt (FJ i));have a:=Hz i;omega
theorem Gs{b a n d:Nat}(e:b=10000*a+d)(h:d+10000*(a%n)<n):b/n=10000*(a/n)/\b%n=d+10000*(a%n):=by
 have c:=xi a n;have c:b=(d+10000*(a%n))+n*(10000*(a/n)):=by
  have:n*(10000*(a/n))=10000*(n*(a/n)):=by ac_rfl
  omega
 have a:0<n:=by omega
 rw[c,I9 _ _ a,u4 h,Nat.add_mul_mod_self_left,n1 h];simp
theorem Gr{b a n d low:Nat}(e:b=10000*a+d)(b7:n*low<=d+10000*(a%n))(cH:d+10000*(a%n)<n*(low+1)):b/n=10000*(a/n)+low/\b%n=d+10000*(a%n)-n*low:=by
 have e:=xi a n;have c:0<n:=by
  rcases zP n with h | h
  ·subst h;simp at cH
  ·exact h
 rw[uh]at cH;have e:b=(d+10000*(a%n)-n*low)+n*(10000*(a/n)+low):=by
  rw[uh];have:n*(10000*(a/n))=10000*(n*(a/n)):=by ac_rfl
  omega
 have b:d+10000*(a%n)-n*low<n:=by omega
 rw[e,I9 _ _ c,u4 b,Nat.add_mul_mod_self_left,n1 b];simp
end Go.Dam.C
namespace Go.Dam.C
open Go Go.Dam
variable{X:aA}{pm:Perm}{H ab bX ai:ae}
structure NE(X:aA):Prop extends nw X where
 m':Has X F.m' C.m'
 oA:Has X F.oA C.oA
 rX:Has X F.rX C.rX
 p7:Has X F.p7 C.p7
 oO:Has X F.oO C.oO
 ru:Has X F.ru C.ru
def dZ(f:Nat->Int)(K:Nat):List Value:=(List.range K).map λi=>.int .i64 (f i)
section
variable{f g:Nat->Int}{K i:Nat}
@[simp] theorem Jp:(dZ f K).length=K:=by simp[dZ]
theorem sC(h:i<K):(dZ f K)[i]? = some (.int .i64 (f i)):=by simp[dZ,h]
@[simp] theorem Jj{h:i<(dZ f K).length}:(dZ f K)[i]=.int .i64 (f i):=by simp[dZ]
theorem Hr{v:Int}(h:i<K):(dZ f K).set i (.int .i64 v)=dZ (cS f i v) K:=by
 apply n4;intro j;by_cases e:j=i
 ·subst e;rw[tk (by simpa using h),sC h,k0]
 ·rw[o2 (Ne.symm e)];by_cases a:j<K
  ·rw[sC a,sC a,iX e]
  ·rw[hc (by simp;omega),hc (by simp;omega)]
theorem q3{v:Int}(h:i<K):setCells (dZ f K) i [.int .i64 v]=some (dZ (cS f i v) K):=by
 rw[setCells_one (by simpa using h),Hr h]
theorem Hq(h:∀i,i<K->f i=g i):dZ f K=dZ g K:=xh λi a=>by rw[h i (o6.1 a)]
theorem En:∀K:Nat,times [.int .i64 0] K=dZ (λ_=>0) K
 | 0=>rfl
 | K+1=>by
   rw[dZ,List.range_succ_eq_map,zQ,List.map_map];show[.int .i64 0]++times [.int .i64 0] K=_;rw[En K];rfl
theorem Hs:dZ f (K+1)=dZ f K++[.int .i64 (f K)]:=by simp[dZ,List.range_succ]
theorem FC:(dZ f K).all dd=true:=by
 rw[eA];intro _ a;obtain⟨i,_,rfl⟩:=gl.1 a;rfl
end
def nC(H:ae)(a:Option Addr)(k n:Nat):Prop:=(a=none/\k=0)∨∃b y c,a=some ⟨b,0,none⟩/\H.get b=some y/\rowOf y=some c/\∀i,i<k->c[i]? = some (.int .i64 (rg n i))
theorem nC.ext{a:Option Addr}{k n:Nat}(h:nC H a k n)(e:Ext H ab):nC ab a k n:=h.imp id λ⟨b,y,a,c,d,f⟩=>⟨b,y,a,c,e _ _ d,f⟩
theorem nC.get{a:Option Addr}{k n:Nat}(h:nC H a k n)(av:k≠0):∃b y c,a=some ⟨b,0,none⟩/\H.get b=some y/\rowOf y=some c/\∀i,i<k->c[i]? = some (.int .i64 (rg n i)):=h.resolve_left λe=>av e.2
structure fB(H:ae)(v:Value)(k n:Nat):Prop where
 kS:kG k n
 row:∃base cap,v=.slice base k cap/\k<=cap/\nC H base k n
theorem fB.ext{v:Value}{k n:Nat}(h:fB H v k n)(e:Ext H ab):fB ab v k n:=by
 obtain⟨a,b,c,d,f⟩:=h.row;exact⟨h.kS,a,b,c,d,f.ext e⟩
theorem fB.one{b d:Nat}{z:cM}(a:H.get b=some (.cells [.int .i64 (d:Int)] z))(aP:d≠0)(b7:d<10000):fB H (.slice (some ⟨b,0,none⟩) 1 1) 1 d:=by
 refine⟨⟨by simpa using b7,λ_=>by simp;omega⟩,_,_,rfl,bc _,.inr ⟨b,_,_,rfl,a,rfl,λi _=>?_⟩⟩;obtain rfl:i=0:=by omega
 simp[rg,n1 b7]
theorem fB.nil:fB H (.slice none 0 0) 0 0:=⟨⟨by decide,λh=>absurd rfl h⟩,_,_,rfl,Nat.zero_le _,.inl ⟨rfl,rfl⟩⟩
def ll(aW:Nat)(v:Value):Prop:=∀a k c,v=.slice (some a) k c->aW<=a.block
theorem ll.nil{aW k c:Nat}:ll aW (.slice none k c):=λ_ _ _ e=>by cases e
theorem ll.of{aW b k c:Nat}(h:aW<=b):ll aW (.slice (some ⟨b,0,none⟩) k c):=λ_ _ _ e=>by cases e;exact h
theorem ll.le{aW a:Nat}{v:Value}(h:ll a v)(e:aW<=a):ll aW v:=λa k c q=>a8 e (h a k c q)
theorem wo(p:NE X){b K N:Nat}{f:Nat->Int}(a:H.get b=some (.cells (dZ f K) (.n 1)))(w:K<1000000000)(q:∀i,i<K->0<=f i/\f i<10000)(t:rs f K=(N:Int)):
 Call X pm F.m' [.slice (some ⟨b,0,none⟩) K K] H λr ab=>ab=H/\∃k,r=.slice (some ⟨b,0,none⟩) k K/\fB H r k N:=by
 refine Call.W p.m' rfl λQ u=>?_;simp;refine fh.of (σ:=Nat) (λs=>[(0,.slice (some ⟨b,0,none⟩) K K),(3,.int .i64 (s:Int))]) (λs ab=>ab=H/\s<=K/\∀i,s<=i->i<K->f i=0) (λs=>s) K (by simp) ⟨rfl,bc _,λi d c=>by omega⟩ ?_;rintro s v ⟨rfl,e,n⟩;have o:(s≠0->f (s-1)≠0)->∀l,aF 2 l=some (.slice (some ⟨b,0,none⟩) s K)->Q .ret l v:=λp l v=>u _ _ _ (by
  simp[v];obtain⟨d,c⟩:=kG.trim e q t n p;exact⟨d,_,_,rfl,e,.inr ⟨b,_,_,rfl,a,rfl,λi f=>by rw[sC (by omega),c i f]⟩⟩)
 have g:=DM (pm:=pm) (cn:=1) (l:=0) (h:=s) (m:=K) (cap:=K) (off:=0) a (.inl rfl) (Nat.zero_le _) e (bc _);simp at g
 cases s with
 | zero=>
   simp[aR,g];exact o (λh=>absurd rfl h) _ (by simp)
 | succ j=>
   have h:wr .i64 (j:Int)=(j:Int):=cE;have k:j<K:=by omega
   by_cases b:f j=0
   ·simp[h,a,k,b];refine kt.of j (by show j<j+1;omega) (by simp) ⟨rfl,by omega,λi d c=>?_⟩;by_cases f:i=j
    ·subst f;exact b
    ·exact n i (by omega) c
   ·simp[h,a,k,b,g];exact o (λ_=>by simpa using b) _ (by simp)
theorem Hm(a:NE X):Call X pm F.m' [.slice none 0 0] H λr ab=>ab=H/\r=.slice none 0 0/\fB H r 0 0:=by
 refine Call.W a.m' rfl λ_ b=>?_;simp;refine fh.of (σ:=Unit) (λs=>[(0,.slice none 0 0),(3,.int .i64 0)]) (λs ab=>ab=H) (λs=>0) () (by simp) rfl ?_;rintro s c rfl;have a:=abe (pm:=pm) (H:=c) (cn:=1) (l:=0) (h:=0) (m:=0) (cap:=0) (bc _) (bc _) (bc _);simp at a;simp[aR,a];refine b _ _ _ ?_;simp;exact .nil
def oz(a b:Nat):Int:=if a<b then -1 else if b<a then 1 else 0
@[simp] theorem Jg{a b:Nat}:(oz a b<0)=(a<b):=by
  unfold oz;split
  ·simp_all
  ·split<;>simp_all
@[simp] theorem Ji{a b:Nat}:(0<oz a b)=(b<a):=by
  unfold oz;split
  ·simp;omega
  ·split<;>simp_all
theorem yC(z:NE X){v w:Value}{d c a b:Nat}(p:fB H v d a)(q:fB H w c b)(aI:d<1000000000)(G:c<1000000000):
 Call X pm F.oA [v,w] H λr ab=>ab=H/\r=.int .i64 (oz a b):=by
 refine Call.W z.oA rfl λQ i=>?_;have k:=p.kS;have m:=q.kS;obtain⟨n,e,rfl,_,A⟩:=p.row;obtain⟨o,f,rfl,_,t⟩:=q.row;obtain⟨M,_⟩:∃M,M=max d c:=⟨_,rfl⟩;have B:(if d<c then(c:Int) else(d:Int))=(M:Int):=by split<;>omega
 have p:wr .i64 ((M:Int)-1)=(M:Int)-1:=cE;simp[B,p,-yE,-uN];refine fh.of (σ:=Nat) (λs=>[(0,.slice n d e),(1,.slice o c f),(5,.int .i64 ((s:Int)-1))]) (λs ab=>ab=H/\s<=M/\a/10000^s=b/10000^s) (λs=>s) M (by simp) ⟨rfl,bc _,?_⟩ ?_
 ·rw[u4 (fK k.1 (hX (by decide) (by omega))),u4 (fK m.1 (hX (by decide) (by omega)))]
 rintro s u ⟨rfl,_,y⟩
 cases s with
 | zero=>
   have:a=b:=by simpa using y
   subst this;simp;refine i _ _ _ ?_;simp[oz]
 | succ j=>
   obtain⟨w,C,D⟩:=F2 y;have E:wr .i64 ((j:Int)-1)=(j:Int)-1:=cE
   have h:∀l:bn,aF 0 l=some (.slice n d e)->aF 1 l=some (.slice o c f)->aF 5 l=some (.int .i64 (j:Int))->aF 6 l=some (.int .i64 (rg a j:Int))->aF 7 l=some (.int .i64 (rg b j:Int))->
    wp X pm (.code sk) l u [.bj 1,.seq sj] λx r ab=>match x with
     | .normal=>kt (λs:Nat=>[(0,.slice n d e),(1,.slice o c f),(5,.int .i64 ((s:Int)-1))]) (λs ab=>ab=u/\s<=M/\a/10000^s=b/10000^s) (λs=>s) (j+1) r ab
     | x=>wp X pm (.res x) r ab [.bj 0,.seq uN] Q:=by
    intro l o p q l n;by_cases e:rg a j<rg b j
    ·simp[l,n,e];refine i _ _ _ ?_;simp[oz,w e]
    ·by_cases f:rg b j<rg a j
     ·simp[l,n,e,f];refine i _ _ _ ?_;have:=C f;simp[oz,this,show ¬a<b by omega]
     ·simp[l,n,e,f,q,E];exact kt.of j (by show j<j+1;omega) (by simp[o,p]) ⟨rfl,by omega,D (by omega)⟩
   by_cases g:j<d
   ·obtain⟨_,_,_,rfl,b,r,v⟩:=A.get (by omega);by_cases a:j<c
    ·obtain⟨_,_,_,rfl,e,f,i⟩:=t.get (by omega);simp[g,a,b,r,v j g,e,f,i j a,-sk,-sj];exact h _ (by simp) (by simp) (by simp) (by simp) (by simp)
    ·simp[g,a,b,r,v j g,-sk,-sj];exact h _ (by simp) (by simp) (by simp) (by simp) (by simp[sr m.1 (show c<=j by omega)])
   ·by_cases a:j<c
    ·obtain⟨_,_,_,rfl,b,e,f⟩:=t.get (by omega);simp[g,a,b,e,f j a,-sk,-sj];exact h _ (by simp) (by simp) (by simp) (by simp[sr k.1 (show d<=j by omega)]) (by simp)
    ·simp[g,a,-sk,-sj];exact h _ (by simp) (by simp) (by simp) (by simp[sr k.1 (show d<=j by omega)]) (by simp[sr m.1 (show c<=j by omega)])
section
variable{p L i a b q4 kf cL dF:Nat}{c0 b':Option Addr}{f:Nat->Int}
end
theorem FA{a:List Value}{k:Nat}{f:Nat->Int}(h:∀i,i<k->a[i]? = some (.int .i64 (f i)))(aY:k<=a.length):bB a 0 k=some (dZ f k):=by
 rw[bB,Nat.zero_add,cJ,hd aY,cond_true];congr 1;apply n4;intro i;by_cases a:i<k
 ·rw[jY a,List.drop_zero,h i a,sC a]
 ·rw[hc (by simp;omega),hc (by simp;omega)]
theorem FK{a:List Value}{k:Nat}{f:Nat->Value}(h:∀i,i<k->a[i]? = some (f i)):k<=a.length:=by
 apply o3;intro _;have:=h a.length (by omega);rw[hc (bc _)]at this;cases this
theorem Gc(g:bl pm H){a:Option Addr}{k cap n:Nat}(c:nC H a k n)(av:k<1000000)(b:k≠0):
 (fz 1 (.slice a k cap) λnew n=>fj 1 8 (.slice none 0 0) new n).run pm H=some (.slice (some ⟨H.next,0,none⟩) k k,H.new (.cells (dZ (λi=>(rg n i:Int)) k) (.n 1))):=by
 obtain⟨_,_,_,rfl,d,e,a⟩:=c.get b;have c:=FA (f:=λi=>(rg n i:Int)) a (FK (f:=λi=>.int .i64 (rg n i:Int)) a);unfold fz;simp only[bf.run,d,e,Nat.mul_one,c];unfold fj;simp[FC,b,show k*8<=17179869184 by omega,show k<=17179869184 by omega,g.make,g.pick]
section
variable{p L i a b q4 kf dF:Nat}{b':Option Addr}{f:Nat->Int}
theorem Hk(g:bl pm H)(h:H.next<=p)(I:kG kf b)(cH:nC H b' kf b){j:ae}(k:K pm H j)(n:j.get p=some (.cells (dZ f L) (.n 1)))(c:i<L)(q:ma a b L i f)(d:L<1000000)
 (J:i+1=L->0<=f i-rg b i) {R:cl}
 (x:∀aU ab ic,Sub [(11,.int .i64 (i:Int)),(10,.int .i64 (L:Int)),(1,.slice b' kf dF),(5,.slice (some ⟨p,0,none⟩) L L)] aU->K pm H ab->ab.get p=some (.cells (dZ ic L) (.n 1))->ma a b L (i+1) ic->R .normal aU ab):
 wp X pm (.code (.seq (.bs [m 13 11,m 6 13]) C.Cs)) [(12,.bool true),(11,.int .i64 (i:Int)),(10,.int .i64 (L:Int)),(1,.slice b' kf dF),(5,.slice (some ⟨p,0,none⟩) L L)] j [] R:=by
 have d:=@kY a i;have d:=@kY b i;have d:=q.c c;have M:=λo=>ej (ah:=pm.ah) (ok:=pm.ok) (o:=o) (b:=p) (by have:=g.ah;omega);have N:pm.may p=true:=g.may h;have O:wr .i64 (f i-(rg b i:Int))=f i-rg b i:=cE;have P:wr .i64 (f i-(rg b i:Int)+10000)=f i-rg b i+10000:=cE;have Q:wr .i64 ((i:Int)+1)=((i+1:Nat):Int):=by rw[cE];simp
 have y:∀(l:bn) (d:ae),aF 11 l=some (.int .i64 (i:Int))->aF 10 l=some (.int .i64 (L:Int))->aF 1 l=some (.slice b' kf dF)->aF 5 l=some (.slice (some ⟨p,0,none⟩) L L)->aF 6 l=some (.int .i64 (i:Int))->
  K pm H d->d.get p=some (.cells (dZ (cS f i (f i-rg b i)) L) (.n 1))->wp X pm (.code sy) l d [] R:=by
  intro l d z B C g D s m;have l:=s.q;by_cases t:f i-rg b i<0
  ·have o:i+1<L:=by
    apply o3;intro _;have:=J (by omega);omega
   have l:=@kY a (i+1);have E:f (i+1)=rg a (i+1):=q.r _ (by omega) o;have S:wr .i64 ((rg a (i+1):Int)-1)=rg a (i+1)-1:=cE;obtain⟨u,v⟩:∃A,A=d.put p (.cells (dZ (cS f i (f i-rg b i+10000)) L) (.n 1)):=⟨_,rfl⟩;have T:K pm H u:=by rw[v];exact aC.put s h m (by simp) _
   have F:u.get p=some (.cells (dZ (cS f i (f i-rg b i+10000)) L) (.n 1)):=by rw[v];exact bO
   obtain⟨G,w⟩:∃A,A=u.put p (.cells (dZ (cS (cS f i (f i-rg b i+10000)) (i+1) (rg a (i+1)-1)) L) (.n 1)):=⟨_,rfl⟩;have d:K pm H G:=by rw[w];exact aC.put T h F (by simp) _
   have l:G.get p=some (.cells (dZ (cS (cS f i (f i-rg b i+10000)) (i+1) (rg a (i+1)-1)) L) (.n 1)):=by rw[w];exact bO
   have u:setCells (dZ (cS f i (f i-rg b i)) L) i [.int .i64 (f i-rg b i+10000)]=some (dZ (cS f i (f i-rg b i+10000)) L):=by rw[q3 c,Iv]
   have A:setCells (dZ (cS f i (f i-rg b i+10000)) L) (i+1) [.int .i64 (rg a (i+1)-1)]=some (dZ (cS (cS f i (f i-rg b i+10000)) (i+1) (rg a (i+1)-1)) L):=q3 o;have G:cS f i (f i-rg b i+10000) (i+1)=rg a (i+1):=by rw[iX (by omega),E]
   simp[D,g,c,m,t,P,u,N,<-v,Q,o,F,G,S,A,<-w,-setCells_one];refine x _ _ _ ?_ d l ?_
   ·simp[z,B,C,g]
   ·have:=q.az o t;rwa [E]at this
  ·simp[D,g,c,m,t];exact x _ _ _ (by simp[z,B,C,g]) s m (q.ah c (by omega))
 have e:=k.q;by_cases r:i<kf
 ·obtain⟨_,_,_,rfl,d,s,t⟩:=cH.get (by omega);have m:=k.some g d;have u:=e.lt m;have v:=e.lt n;have w:setCells (dZ f L) i [.int .i64 (f i-rg b i)]=some (dZ (cS f i (f i-rg b i)) L):=q3 c;obtain⟨o,a⟩:∃A,A=(j.up 11).put p (.cells (dZ (cS f i (f i-rg b i)) L) (.n 1)):=⟨_,rfl⟩;have z:K pm H o:=by rw[a];exact aC.put (k.up 11) h n (by simp) _
  have g:o.get p=some (.cells (dZ (cS f i (f i-rg b i)) L) (.n 1)):=by rw[a];exact bO
  simp[r,-sy];refine cx.of e.ah rfl ?_;simp[b8,e.none,e.O,c,r,n,m,s,t i r,O,w,M,<-a,b3,bZ,u,v,-sy,-setCells_one];exact y _ _ (by simp) (by simp) (by simp) (by simp) (by simp) z g
 ·have g:(rg b i:Int)=0:=by rw[sr I.1 (by omega)];rfl
  have b:dZ (cS f i (f i)) L=dZ f L:=Hq λj _=>by
   by_cases a:j=i
   ·subst a;exact k0
   ·exact iX a
  simp[r,-sy];exact y _ _ (by simp) (by simp) (by simp) (by simp) (by simp) k (by rw[g,Int.sub_zero,b];exact n)
end
theorem Hj(e:NE X)(g:bl pm H){v w:Value}{c h a b:Nat}(l:fB H v c a)(m:fB H w h b)(aI:c<100000)(_:h<100000)(z:b<=a):Call X pm F.rX [v,w] H λr ab=>K pm H ab/\∃k,fB ab r k (a-b)/\ll H.next r:=by
 refine Call.W e.rX rfl λ_ n=>?_;have d:=l.kS;have v:=m.kS;obtain⟨w,o,rfl,_,q⟩:=l.row;obtain⟨A,B,rfl,_,C⟩:=m.row;by_cases s:c=0
 ·subst s;obtain rfl:a=0:=d.nE.1 rfl;obtain rfl:b=0:=by omega
  have a:(fz 1 (.slice w 0 o) λb f=>fj 1 8 (.slice none 0 0) b f).run pm H=some (.slice none 0 0,H):=by
   unfold fz fj
   rcases q with⟨rfl,_⟩ | ⟨x,y,row,rfl,g1,g2,_⟩
   ·simp
   ·simp[g1,g2,bB]
  simp[a,-fz,-vX,-v'];refine er (σ:=Unit) 0 (λ_ _=>[(5,.slice none 0 0)]) (λi _ ab=>ab=H) () (by simp) rfl (λi _ a b=>absurd b (gS _)) ?_;rintro _ a rfl;simp;refine al.of (aq:=[.slice none 0 0]) (Hm e) ?_;rintro r _ ⟨rfl,rfl,a⟩;simp;refine n _ _ _ ?_;simp;exact⟨K.refl g,⟨0,a⟩,ll.nil⟩
 ·have r:=Gc (pm:=pm) g (cap:=o) q (by omega) s;obtain⟨p,t⟩:∃p,p=H.next:=⟨_,rfl⟩;obtain⟨u,j⟩:∃l,l=H.new (.cells (dZ (λi=>(rg a i:Int)) c) (.n 1)):=⟨_,rfl⟩;have l:K pm H u:=by rw[j];exact K.new g _
  have g1:u.get p=some (.cells (dZ (λi=>(rg a i:Int)) c) (.n 1)):=by rw[j,t];exact cc
  rw[<-t,<-j]at r;simp[r,-fz,-vX,-v'];refine er (σ:=Unit) c (λ_ _=>[(1,.slice A h B),(5,.slice (some ⟨p,0,none⟩) c c)]) (λi _ ab=>K pm H ab/\∃f,ab.get p=some (.cells (dZ f c) (.n 1))/\ma a b c i f) () (by simp) ⟨l,_,g1,ma.zero d.1 λ_ _=>rfl⟩ ?_ ?_
  ·rintro i _ _ b ⟨h,f,j,a⟩;refine Hk g (by omega) v C h j b a (by omega) (λk=>?_) ?_
   ·obtain rfl:c=i+1:=k.symm;exact a.top z d.1
   ·intro _ ab a b g h i;exact⟨(),b,g,a,h,i⟩
  ·rintro _ _ ⟨g,f,h,f⟩;simp;refine al.of (aq:=[.slice (some ⟨p,0,none⟩) c c]) (wo e (N:=a-b) h (by omega) f.d ?_) ?_
   ·rw[f.s,n1 (by have:=d.1;omega)];omega
   rintro _ _ ⟨rfl,k,rfl,a⟩;simp;refine n _ _ _ ?_;simp;exact⟨g,⟨k,a⟩,ll.of (by omega)⟩
section
variable{p L i k a b q4 kf cL dF:Nat}{c0 b':Option Addr}{f:Nat->Int}
theorem Hh(g:bl pm H)(e:H.next<=p)(b7:nC H c0 q4 a)(cH:nC H b' kf b){h:ae}(j:K pm H h)(n:h.get p=some (.cells (dZ f L) (.n 1)))(B:i<q4)(av:k<kf)(aY:L=q4+kf+1)(q:lD a b kf L i k f)(J:L<1000000){R:cl}
 (T:∀aU ab ic,Sub [(23,.int .i64 (k:Int)),(22,.int .i64 (kf:Int)),(18,.int .i64 (i:Int)),(17,.int .i64 (q4:Int)),(0,.slice c0 q4 cL),(1,.slice b' kf dF),(5,.slice (some ⟨p,0,none⟩) L L),(6,.int .i64 (i:Int))] aU->K pm H ab->ab.get p=some (.cells (dZ ic L) (.n 1))->lD a b kf L i (k+1) ic->R .normal aU ab):
 wp X pm (.code (.seq (.bs [m 25 23,m 7 25]) C.Bk)) [(24,.bool true),(23,.int .i64 (k:Int)),(22,.int .i64 (kf:Int)),(18,.int .i64 (i:Int)),(17,.int .i64 (q4:Int)),(0,.slice c0 q4 cL),(1,.slice b' kf dF),(5,.slice (some ⟨p,0,none⟩) L L),(6,.int .i64 (i:Int))] h [] R:=by
 obtain⟨P,D⟩:∃P,P=i+k:=⟨_,rfl⟩;have E:=λo=>ej (ah:=pm.ah) (ok:=pm.ok) (o:=o) (b:=p) (by have:=g.ah;omega);have U:pm.may p=true:=g.may e;have F:P+1<L:=by omega
 have d:P<L:=by omega
 obtain⟨G,I,r⟩:=q.step av (by omega) rfl;rw[<-D]at G I r;obtain⟨x,J⟩:∃x:Nat,f P+rg a i*rg b k=(x:Int):=⟨(f P+rg a i*rg b k).toNat,by omega⟩;rw[J]at G I r;have G:=@kY a i;have G:=@kY b k;have G:rg a i*rg b k<=9999*9999:=gk (by omega) (by omega);have G:((rg a i*rg b k:Nat):Int)=(rg a i:Int)*rg b k:=by simp
 have G:=q.b (P+1) (by omega);have G:=q.p (P+1);have s:wr .i64 ((i:Int)+(k:Int))=(P:Int):=by rw[cE,D];simp
 have V:wr .i64 ((P:Int)+1)=(P:Int)+1:=cE;have W:wr .i64 ((rg a i:Int)*(rg b k:Int))=rg a i*rg b k:=cE;have Y:wr .i64 (f P+(rg a i:Int)*(rg b k:Int))=(x:Int):=by rw[cE,J]
 have Z:wr .i64 ((x:Int)/10000)=(x:Int)/10000:=cE;have q:wr .i64 ((x:Int)%10000)=(x:Int)%10000:=cE;have wQ:wr .i64 (f (P+1)+(x:Int)/10000)=f (P+1)+(x:Int)/10000:=cE;have c:=j.q;obtain⟨_,_,_,rfl,d1,d2,d3⟩:=b7.get (by omega);obtain⟨_,_,_,rfl,q,d5,d6⟩:=cH.get (by omega);have M:=j.some g d1;have N:=j.some g q;have q1:=c.lt M;have q2:=c.lt N;have aa:=c.lt n;have ad:setCells (dZ f L) P [.int .i64 (x:Int)]=some (dZ (cS f P x) L):=q3 d;obtain⟨t,u⟩:∃A,A=(h.up 18).put p (.cells (dZ (cS f P x) L) (.n 1)):=⟨_,rfl⟩;have O:K pm H t:=by rw[u];exact aC.put (j.up 18) e n (by simp) _
 have v:t.get p=some (.cells (dZ (cS f P x) L) (.n 1)):=by rw[u];exact bO
 simp[-vj];refine cx.of c.ah rfl ?_;simp[b8,c.none,c.O,B,av,n,M,d2,d3 i B,N,d5,d6 k av,s,d,W,Y,ad,E,<-u,b3,bZ,q1,q2,aa,-vj,-setCells_one];have l:=O.q;have ae:=l.lt v;have e1:cS f P x (P+1)=f (P+1):=iX (by omega);have af:setCells (dZ (cS f P x) L) (P+1) [.int .i64 (f (P+1)+(x:Int)/10000)]=some (dZ (cS (cS f P x) (P+1) (f (P+1)+(x:Int)/10000)) L):=q3 F;obtain⟨w,y⟩:∃A,A=(t.up 17).put p (.cells (dZ (cS (cS f P x) (P+1) (f (P+1)+(x:Int)/10000)) L) (.n 1)):=⟨_,rfl⟩;have kD:K pm H w:=by rw[y];exact aC.put (O.up 17) e v (by simp) _
 have Q:w.get p=some (.cells (dZ (cS (cS f P x) (P+1) (f (P+1)+(x:Int)/10000)) L) (.n 1)):=by rw[y];exact bO
 simp[-u'];refine cx.of l.ah rfl ?_;simp[b8,l.none,l.O,v,s,V,d,F,e1,Z,wQ,af,E,<-y,b3,bZ,ae,-u',-setCells_one];have e2:cS (cS f P x) (P+1) (f (P+1)+(x:Int)/10000) P=(x:Int):=by rw[iX (by omega),k0]
 have ag:setCells (dZ (cS (cS f P x) (P+1) (f (P+1)+(x:Int)/10000)) L) P [.int .i64 ((x:Int)%10000)]=some (dZ (cS (cS (cS f P x) (P+1) (f (P+1)+(x:Int)/10000)) P ((x:Int)%10000)) L):=q3 d;obtain⟨S,z⟩:∃A,A=w.put p (.cells (dZ (cS (cS (cS f P x) (P+1) (f (P+1)+(x:Int)/10000)) P ((x:Int)%10000)) L) (.n 1)):=⟨_,rfl⟩;have c:K pm H S:=by rw[z];exact aC.put kD e Q (by simp) _
 have e:S.get p=some (.cells (dZ (cS (cS (cS f P x) (P+1) (f (P+1)+(x:Int)/10000)) P ((x:Int)%10000)) L) (.n 1)):=by rw[z];exact bO
 simp[Q,s,d,e2, ag,U,<-z,-setCells_one];exact T _ _ _ (by simp) c e r
end
theorem Fw(t:NE X)(g:bl pm H){v w:Value}{e d a b:Nat}(u:fB H v e a)(y:fB H w d b)(aI:e<100000)(hb:d<100000):Call X pm F.p7 [v,w] H λr ab=>K pm H ab/\∃k,fB ab r k (a*b)/\ll H.next r:=by
 refine Call.W t.p7 rfl λ_ O=>?_;have v:=u.kS;have w:=y.kS;obtain⟨m,B,rfl,_,P⟩:=u.row;obtain⟨C,D,rfl,_,Q⟩:=y.row;obtain⟨M,E⟩:∃M,M=e+d:=⟨_,rfl⟩;have R:wr .i64 ((e:Int)+(d:Int))=(M:Int):=by rw[cE,E];simp
 have S:wr .i64 ((M:Int)+1)=(M:Int)+1:=cE;have f:=nO (pm:=pm) (H:=H) g.tock (Ut:=H) (z:=[.int .i64 0]) (bytes:=8) (c:=M+1);rw[En]at f;obtain⟨p,F⟩:∃p,p=H.next:=⟨_,rfl⟩;obtain⟨G,n⟩:∃A,A=H.new (.cells (dZ (λ_=>0) (M+1)) (.n 1)):=⟨_,rfl⟩;have u:K pm H G:=by rw[n];exact K.new g _
 have y:G.get p=some (.cells (dZ (λ_=>0) (M+1)) (.n 1)):=by rw[n,F];exact cc
 simp only[List.length_singleton,<-F,<-n]at f;have T:=λo=>ej (ah:=pm.ah) (ok:=pm.ok) (o:=o) (b:=p) (by have:=g.ah;omega);have U:pm.may p=true:=g.may (by omega);simp[R,S,f,-A3,-Bo];refine er (σ:=Unit) e (λ_ _=>[(0,.slice m e B),(1,.slice C d D),(5,.slice (some ⟨p,0,none⟩) (M+1) (M+1))]) (λi _ ab=>K pm H ab/\∃f,ab.get p=some (.cells (dZ f (M+1)) (.n 1))/\lD a b d (M+1) i 0 f) () (by simp) ⟨u,_,y,lD.zero⟩ ?_ ?_
 ·rintro i _ _ c ⟨h,f,j,l⟩;simp[-AS];refine er (σ:=Unit) d (λ_ _=>[(18,.int .i64 (i:Int)),(17,.int .i64 (e:Int)),(0,.slice m e B),(1,.slice C d D),(5,.slice (some ⟨p,0,none⟩) (M+1) (M+1)),(6,.int .i64 (i:Int))]) (λk _ ab=>K pm H ab/\∃f,ab.get p=some (.cells (dZ f (M+1)) (.n 1))/\lD a b d (M+1) i k f) () (by simp) ⟨h,f,j,l⟩ ?_ ?_
  ·rintro k _ _ a ⟨b,_,d,e⟩;refine Hh g (by omega) P Q b d c a (by omega) e (by omega) ?_;intro _ ab a b c d e;exact⟨(),b,c,a,d,e⟩
  ·rintro _ _ ⟨a,b,c,d⟩;simp;exact⟨a,b,c,d.row w.1⟩
 ·rintro _ _ ⟨d,f,e,n⟩;simp[-A8,-Bc];have V:a*b<10000^M:=by
   rw[E,hG];exact Nat.mul_lt_mul'' v.1 w.1
  refine fh.of (σ:=Nat) (λs=>[(5,.slice (some ⟨p,0,none⟩) (M+1) (M+1)),(8,.int .i64 (s:Int))]) (λs ab=>K pm H ab/\s<=M/\∃f,ab.get p=some (.cells (dZ f (M+1)) (.n 1))/\si (a*b) (M+1) s f) (λs=>M-s) 0 (by simp) ⟨d,Nat.zero_le _,f,e,n.fin v.1⟩ ?_;rintro s d ⟨o,_,c,h,g⟩;have j:=o.q;have l:wr .i64 ((s:Int)+1)=(s:Int)+1:=cE;by_cases z:s<M
  ·have e:=g.p s;have e:=g.p (s+1);have m:=g.b (s+1) (by omega);have e:=g.c;obtain⟨x,a⟩:∃x:Nat,c s=(x:Int):=⟨(c s).toNat,by omega⟩;have W:wr .i64 ((x:Int)/10000)=(x:Int)/10000:=cE;have e:wr .i64 ((x:Int)%10000)=(x:Int)%10000:=cE;have X:wr .i64 (c (s+1)+(x:Int)/10000)=c (s+1)+(x:Int)/10000:=cE;have b:s<M+1:=by omega
   have I:s+1<M+1:=by omega
   have Y:=j.lt h;have Z:setCells (dZ c (M+1)) (s+1) [.int .i64 (c (s+1)+(x:Int)/10000)]=some (dZ (cS c (s+1) (c (s+1)+(x:Int)/10000)) (M+1)):=q3 I;obtain⟨k,q⟩:∃A,A=(d.up 13).put p (.cells (dZ (cS c (s+1) (c (s+1)+(x:Int)/10000)) (M+1)) (.n 1)):=⟨_,rfl⟩;have kC:K pm H k:=by rw[q];exact aC.put (o.up 13) (by omega) h (by simp) _
   have J:k.get p=some (.cells (dZ (cS c (s+1) (c (s+1)+(x:Int)/10000)) (M+1)) (.n 1)):=by rw[q];exact bO
   have e1:cS c (s+1) (c (s+1)+(x:Int)/10000) s=(x:Int):=by rw[iX (by omega),a]
   have aa:setCells (dZ (cS c (s+1) (c (s+1)+(x:Int)/10000)) (M+1)) s [.int .i64 ((x:Int)%10000)]=some (dZ (cS (cS c (s+1) (c (s+1)+(x:Int)/10000)) s ((x:Int)%10000)) (M+1)):=q3 b;obtain⟨L,r⟩:∃A,A=k.put p (.cells (dZ (cS (cS c (s+1) (c (s+1)+(x:Int)/10000)) s ((x:Int)%10000)) (M+1)) (.n 1)):=⟨_,rfl⟩;have kD:K pm H L:=by rw[r];exact aC.put kC (by omega) J (by simp) _
   have gD:L.get p=some (.cells (dZ (cS (cS c (s+1) (c (s+1)+(x:Int)/10000)) s ((x:Int)%10000)) (M+1)) (.n 1)):=by rw[r];exact bO
   have N:=g.step I;rw[a]at N;simp[l,z,-vq];refine cx.of j.ah rfl ?_;simp[b8,j.none,j.O,h,l,z,b,a,W,X,Z,T,<-q,b3,bZ,Y,-setCells_one,-vq];simp[J,b,e1, aa,U,<-r,l,-setCells_one];refine kt.of (s+1) ?_ (by simp) ⟨kD,by omega,_,gD,N⟩;show M-(s+1)<M-s;omega
  ·obtain rfl:s=M:=by omega
   have q:=g.fin V;simp[l];refine al.of (aq:=[.slice (some ⟨p,0,none⟩) (s+1) (s+1)]) (wo t (N:=a*b) h (by omega) (λi _=>?_) g.s) ?_
   ·by_cases a:i=s
    ·subst a;rw[q];decide
    ·exact g.d i (by omega)
   rintro _ _ ⟨rfl,k,rfl,c⟩;simp;refine O _ _ _ ?_;simp;exact⟨o,⟨k,c⟩,ll.of (by omega)⟩
end Go.Dam.C
