/- What the functions of the program compute, for every input. -/
import Derived.Test.YtcdpdaildggfiaaGreatDoorLawB
namespace Go.Dam.C
open Go Go.Dam
variable{X:ar}{pm:Perm}{H aa bL aj:ad}{n:Nat}
section
variable{P:bu}{ak:Nat}{ai:Nat->Nat}{lc bo:Value}{T:bd}
theorem I4{a af i:Nat}(h:i=a∨T.M i af=0)(x y:Nat):(j3 T a af (i+1)).M x y=(j3 T a af i).M x y:=by
 show(if x=a then dO T a af y else if x<i+1 then(T.r0 a af).M x y else T.M x y)=if x=a then dO T a af y else if x<i then(T.r0 a af).M x y else T.M x y
 by_cases e:x=a
 ·simp[e]
 ·by_cases b:x=i
  ·subst b;have h:T.M x af=0:=h.resolve_left e;simp only[e,if_false,Nat.lt_irrefl,nd,if_true];show(if x=a then _ else if y=af then T.M x af*dO T a af af else T.M x y+T.M x af*dO T a af y)=T.M x y;rw[aC e,h];split
   ·rename_i c;subst c;rw[h];grind
   ·grind
  ·by_cases a:x<i
   ·simp[e,a,show x<i+1 by omega]
   ·simp[e,a,show ¬x<i+1 by omega]
theorem I3{a af i:Nat}(b:i≠a):(j3 T a af i).M i=T.M i:=by
 funext y;show(if i=a then dO T a af y else if i<i then(T.r0 a af).M i y else T.M i y)=_;simp[b]
theorem QA{a af i:Nat}:(j3 T a af i).M a=dO T a af:=by
 funext y;show(if a=a then dO T a af y else _)=_;simp
theorem QB{a af i w:Nat}(b:i≠a)(x y:Nat)(d:y<w):(j3 T a af (i+1)).M x y=(k7 (j3 T a af i) i w (fE (j3 T a af i) a af i)).M x y:=by
 show(if x=a then dO T a af y else if x<i+1 then(T.r0 a af).M x y else T.M x y)=if x=i/\y<w then fE (j3 T a af i) a af i y else(j3 T a af i).M x y
 by_cases c:x=i
 ·subst c;simp only[b,if_false,nd,if_true,d,and_self];rw[fE,I3 b,QA];show(if x=a then _ else if y=af then T.M x af*dO T a af af else T.M x y+T.M x af*dO T a af y)=_;rw[aC b]
 ·simp only[c,false_and,if_false];show _=if x=a then dO T a af y else if x<i then(T.r0 a af).M x y else T.M x y
  by_cases a:x<i
  ·simp[a,show x<i+1 by omega]
  ·simp[a,show ¬x<i+1 by omega]
theorem J'(m:ep X)(W:bs pm aj)(n:pm.ah<=ak)(w:ak<=aj.next)(p:ll P)(ez:cl P ak aj ai lc bo T){t:Nat}(au:1<=t)(Y:t<=90000)(f:∀i k,i<P.m->k<P.n->aS (T.M i k) t){a af:Nat}(eA:a<P.m)(c:af<P.n)(H:T.M a af≠0):
 Call X pm F.ny [.pointer (some ⟨ai 0,0,none⟩),.int .i64 (a:Int),.int .i64 (af:Int)] aj λ_ aa=>aF pm ak aj aa/\cl P ak aa ai lc bo (T.r0 a af):=by
 refine Call.P m.ny rfl λ_ Z=>?_;have av:=p.n;have aw:=p.m;have ax:t<=fo:=aY Y (by decide);have g:0<P.m:=by omega
 have I:0<P.n:=by omega
 have J:=ez.t;rw[cO (b:=ai 4) g]at J;obtain⟨_,m1,_,m3⟩:=ez.m g;have ab:=m3 a eA;obtain⟨_,p1,_,p3⟩:=ez.row a eA;obtain⟨_,ad,ae⟩:=p3 af c;simp[J,m1,ab,eA,-ER];simp[p1,ad,c,-y0,-EO];refine RS m W n w p ez (t:=t) (by omega) eA c (λk z=>f a k eA z) H ae (by simp) (by simp) (by simp) (by simp) (by simp) (by simp) (by simp) (λ_ _ u1 L M=>?_);simp only[ts]at M;obtain⟨N,j1,j2,j6,_⟩:=M;have O:=L.t;rw[cO (b:=ai 4) g]at O;have Q:∀i x y,x<P.m->y<P.n->aS ((j3 T a af i).M x y) (4*t+1):=λi x y l e=>by
  have b:=λy e=>QK (T:=T) (a:=a) (af:=af) (k:=y) (λk z=>f a k eA z) e c H;show aS (if x=a then dO T a af y else if x<i then(T.r0 a af).M x y else T.M x y) _;split
  ·exact en (b y e) (by omega)
  ·rename_i ag;split
   ·show aS (if x=a then _ else if y=af then T.M x af*dO T a af af else T.M x y+T.M x af*dO T a af y) _;rw[aC ag];split
    ·exact en (kt (f x af l c) (b af c)) (by omega)
    ·exact en (s0 (f x y l e) (kt (f x af l c) (b y e))) (by omega)
   ·exact en (f x y l e) (by omega)
 simp[N,O,-EN,-EL]
 refine eE (σ:=Unit) P.m (λ_ _=>[(0,.pointer (some ⟨ai 0,0,none⟩)),(1,.int .i64 (a:Int)),(2,.int .i64 (af:Int)),(6,.slice (some ⟨ai (5+a),0,none⟩) P.n P.n),(64,.slice (some ⟨ai 4,0,none⟩) P.m P.m)])
  (λi _ aa=>aF pm ak aj aa/\cl P ak aa ai lc bo (j3 T a af i)) () (by simp[N,j1,j2,j6]) ⟨u1,L⟩ ?_ ?_
 ·rintro i _ s b ⟨d,h⟩;have o:=d.h;have u:=aY w d.next;obtain⟨_,v,_,A⟩:=h.m g;have B:=A i b;obtain⟨_,C,_,D⟩:=h.row i b;obtain⟨E,F,q⟩:=D af c;simp[v,B,b,C,F,c,bz,-y1,-tc];by_cases j:i=a
  ·subst j;simp;refine aq.not ?_;simp[bz];exact⟨d,h.congr (λ_ _=>rfl) (λ_ _=>rfl) (λ_ _=>rfl) λx y _ _=>I4 (.inl rfl) x y⟩
  ·have G:¬((i:Int)=(a:Int)):=by omega
   have K:((i:Int)==(a:Int))=false:=by simpa using G
   simp[K,-y1,-tc];have r:(j3 T a af i).M i af=T.M i af:=by rw[I3 j]
   refine aq.of (az:=[E]) (jr m.tozg o q.of ((Q i i af b c).bw (aY (show 4*t+1<=400000 by omega) (by decide)))) ?_;rintro _ s ⟨rfl,rfl⟩;by_cases k:T.M i af=0
   ·simp[hB,r,k,];exact⟨d,h.congr (λ_ _=>rfl) (λ_ _=>rfl) (λ_ _=>rfl) λx y _ _=>I4 (.inr k) x y⟩
   ·simp[hB,r,k, -tc];refine RR m o n u p h (t:=4*t+1) (by omega) (Q i) eA b j c q (u64:=.slice (some ⟨ai 4,0,none⟩) P.m P.m) (by simp) (by simp) (by simp) (by simp) (by simp) (by simp) (by simp) (by simp) (by simp) λ_ aa a R S=>?_;simp;exact⟨by simpa using S,d.trans a,R.congr (λ_ _=>rfl) (λ_ _=>rfl) (λ_ _=>rfl) λx y _ e=>QB j x y e⟩
 ·rintro _ q ⟨A,k⟩;have d:=A.h;have B:=k.t;rw[cO (b:=ai 2) g,cO (b:=ai 3) I]at B;obtain⟨C,D,_,X⟩:=k.r g;obtain⟨E,F,_,c3⟩:=k.c I;have aa:=X a eA;have ah:=c3 af c;have R:a<C.length:=by omega
  have S:af<E.length:=by omega
  have r4:C[a]=.int .i64 (T.rows a:Int):=by
   have:=eu R;rw[aa]at this;exact(jF this).symm
  have c4:E[af]=.int .i64 (T.a af:Int):=by
   have:=eu S;rw[ah]at this;exact(jF this).symm
  have aj:=d.lt B;have ak:=d.lt D;have al:=d.lt F;have an:=k.ne (i:=2) (j:=3) (by omega) (by omega) (by decide);have ao:=λo=>eG (ok:=pm.ok) (o:=o) (aY n (ez.ge 2 (by omega)));have aq:=λo=>eG (ok:=pm.ok) (o:=o) (aY n (ez.ge 3 (by omega)));simp;refine cy.of d.ah rfl ?_;obtain⟨b,r⟩:∃b,b=(q.up 28).put (ai 2) (.cells (C.set a (.int .i64 (T.a af:Int))) (.n 1)):=⟨_,rfl⟩;have U:b.get (ai 3)=some (.cells E (.n 1)):=by rw[r,a7 (h:=Ne.symm an)];exact F
  have ar:∀t,b.get (q.next+t)=none:=λt=>by rw[r,a7];exact d.none t
  simp[b7,d.none,d.J,<-r,U,ar,B,D, eA,F, c,ao,aq,R,S,r4,c4,bz,  cj,cd,aj,ak,al,];have s:K pm q (q.up 28):=(K.refl d).up 28;obtain⟨G,V⟩:=(k.k d s).SF s.h eA (v:=T.a af) (s.some d D);rw[<-r]at G V;obtain⟨u4,t4⟩:=V.hX G.h c (v:=T.rows a) U;refine Z _ _ _ ?_;simp;refine⟨((A.k s (aY w A.next)).trans G).trans u4,t4.congr (λ_ _=>rfl) (λ_ _=>rfl) (λ_ _=>rfl) λx y l _=>?_⟩;show(if x=a then dO T a af y else if y=af then _ else _)=if x=a then dO T a af y else if x<P.m then(T.r0 a af).M x y else T.M x y
  by_cases u:x=a
  ·simp[u]
  ·rw[aC u,aC u,aT l];show _=if x=a then _ else _
   rw[aC u]
end
def c2:Option Nat->Int
 | none=>-1
 | some k=>k
theorem p1.load{P:bu}{b k:Nat}{v:Nat->Rat}(h:p1 H P b k v){x:Nat}(e:x<k):∃bN p q c,H.get b=some (.cells bN (.n 3))/\bx bN (x*3) 3=some [p,q,c]/\jN H P v x p q c:=by
 obtain⟨bN,f,_,g⟩:=h;obtain⟨p,q,c,a,b,d,i⟩:=g x e;refine⟨bN,p,q,c,f,?_,i⟩;have e:x*3+2<bN.length:=by omega
 unfold bx;rw[cg,ix (show x*3+3<=bN.length by omega),cond_true];rw[xh (show x*3<bN.length by omega),xh (show x*3+1<bN.length by omega),xh e];rw[eu (by omega)]at a b d;cases a;cases b;cases d;rfl
section
variable{P:bu}{ak:Nat}{ai:Nat->Nat}{lc bo:Value}{T:bd}
theorem tG{p:Nat->Bool}{a:Nat->Nat}{k:Nat}(h:p k=false):dL p a (k+1)=dL p a k:=by
 rw[dL];cases dL p a k<;>simp[h]
theorem tF{p:Nat->Bool}{a:Nat->Nat}{k b:Nat}(h:dL p a k=some b):b<k:=(lr h).1
theorem ON(o:ep X)(w:bs pm aj)(s:ll P)(ez:cl P ak aj ai lc bo T)(Z:dx P T){t:Nat}(N:t<=100000)(O:gQ P T t){a:Nat}(eA:a<P.m){aG:Int}(ag:aG=1∨aG=-1):
 Call X pm F.oN [.pointer (some ⟨ai 0,0,none⟩),.int .i64 (a:Int),.int .i64 aG] aj λr aa=>K pm aj aa/\r=.int .i64 (c2 (kM P T a aG)):=by
 refine Call.P o.oN rfl λ_ hQ=>?_;have ao:=s.n;have ao:=s.m;have Q:t<=fo:=aY N (by decide);have s:0<P.m:=by omega
 have L:=ez.t;rw[cO (b:=ai 4) s]at L;obtain⟨_,m1,_,m3⟩:=ez.m s;have ah:=m3 a eA;obtain⟨p,q⟩:∃p:Nat->Bool,p=λk=>decide (T.M a k≠0)&&can P T.v (T.a k) (aG*ck (T.M a k)):=⟨_,rfl⟩;simp[L,m1,ah,eA,-Ei]
 refine eE (σ:=Unit) P.n (λk _=>[(0,.pointer (some ⟨ai 0,0,none⟩)),(1,.int .i64 (a:Int)),(2,.int .i64 aG),(7,.int .i64 (c2 (dL p T.a k))),(16,.slice (some ⟨ai (5+a),0,none⟩) P.n P.n)])
  (λk _ aa=>K pm aj aa) () (by simp[dL,c2]) (K.refl w) ?_ ?_
 ·rintro k _ R f r;have c:=r.h;have s:0<P.n:=by omega
  have L:0<P.n+P.m:=by omega
  have t:=ez.k w r;have u:=t.t;rw[cO (b:=ai 1) L,cO (b:=ai 3) s]at u;obtain⟨_,x,_,p3⟩:=t.row a eA;obtain⟨S,ak,h⟩:=p3 k f;obtain⟨_,y,_,c3⟩:=t.c s;have al:=c3 k f;have z:=Z.c k f;obtain⟨az,va,vb,vc,A,v2,v3⟩:=(t.v L).load z;have U:=O.M a k eA f;have V:=c.lt u;have W:=c.lt A;have Y:=c.lt y;have t:=c.lt x
  have an:∀(l:ad),K pm aj l->p k=true->∀L:bb,aK 0 L=some (.pointer (some ⟨ai 0,0,none⟩))->aK 1 L=some (.int .i64 (a:Int))->aK 2 L=some (.int .i64 aG)->aK 7 L=some (.int .i64 (c2 (dL p T.a k)))->aK 8 L=some (.int .i64 (k:Int))->
   aK 16 L=some (.slice (some ⟨ai (5+a),0,none⟩) P.n P.n)->aK 17 L=some (.int .i64 (P.n:Int))->aK 18 L=some (.int .i64 (k:Int))->∀t:b5,(∀Z aa,K pm aj aa->Sub [(18,.int .i64 (k:Int)),(17,.int .i64 (P.n:Int)),(0,.pointer (some ⟨ai 0,0,none⟩)),(1,.int .i64 (a:Int)),(2,.int .i64 aG),(7,.int .i64 (c2 (dL p T.a (k+1)))),(16,.slice (some ⟨ai (5+a),0,none⟩) P.n P.n)] Z->t .normal Z aa)->
   wp X pm (.code nw) L l [] t:=by
   intro l B C L m D E i F G H I t J;have e:=B.h;have t:=ez.k w B;have v:=t.t;rw[cO (b:=ai 3) s]at v;obtain⟨_,M,_,d3⟩:=t.c s;have ab:=d3 k f;have ad:=e.lt v;have ae:=e.lt M;simp;refine cy.of e.ah rfl ?_;have d:K pm aj (l.up 19):=B.trans ((K.refl e).up 19)
   cases j:dL p T.a k with
   | none=>
     rw[j]at i;simp[b7,e.none,e.J, i,F,    c2,cj,cd,  bz];exact J _ _ d (by simp[m,D,E,G,H,I,dL,j,C,c2,])
   | some b=>
     rw[j]at i;have a:=tF j;have p:b<P.n:=by omega
     have s:=d3 b p;by_cases a:T.a k<T.a b
     ·simp[b7,e.none,e.J,m,i,F,v,M,ab,s,f,p,c2,cj,cd,   ad,ae,a];exact J _ _ d (by simp[m,D,E,G,H,I,dL,j,C,c2, a])
     ·simp[b7,e.none,e.J,m,i,F,v,M,ab,s,f,p,c2,cj,cd,   ad,ae,a];exact J _ _ d (by simp[m,D,E,G,H,I,i,dL,j,C,c2, a])
  simp[x,ak,f,-nw];refine cy.of c.ah rfl ?_;simp[b7, c.J,-nw];have d:K pm R (R.up 24):=(K.refl c).up 24;refine gS d.h (az:=[S]) (by simp[c.none]) rfl (λaf g=>jR g (jr o.tozg g (h.up d).of (U.bw Q))) ?_;rintro _ _-⟨rfl,rfl⟩;by_cases n:T.M a k=0
  ·have b:(ck (T.M a k)==0)=true:=by simp[hB,n]
   simp[b,bz,c.none,-nw];refine fL.not (by simp[c.none]) ?_;simp[bz,c.none,-nw];refine fL.not (by simp[c.none]) ?_;simp[bz,c.none,cj,cd,  dM];exact⟨by rw[tG (by rw[q];simp[n])],r.trans d⟩
  ·have m:(ck (T.M a k)==0)=false:=by simp[hB,n]
   have p:=yy ag n;have D:wr .i64 (aG*ck (T.M a k))=aG*ck (T.M a k):=b8;simp[m,c.none,u,A,y,al,f,z,v2,-nw];refine eM d.h (az:=[S]) (by simp[c.none]) rfl (λaf g=>jR g (jr o.tozg g (h.up d).of (U.bw Q))) ?_;rintro _ _-⟨rfl,rfl⟩;simp[c.none,D,-nw];refine gS (eA:=by simp[bB]) d.h (az:=[.agg #[va,vb,vc],.int .i64 (aG*ck (T.M a k))]) (by simp[c.none]) rfl (λaf g=>GR o g (v3.k d) (O.v _ z) (aY N (by decide))) ?_;rintro _ l b rfl;have e:=b.res c;have i:=r.trans (d.trans b);have j:=λm=>lz (h.up d) (d.some c u) m;have v:=λm=>lz (h.up d) (d.some c A) m;have B:=λm=>lz (h.up d) (d.some c y) m;have b:=λm=>lz (h.up d) (d.some c x) m
   cases C:can P T.v (T.a k) (aG*ck (T.M a k)) with
   | false=>
     simp[e,cj,cd, V,W,Y, dM,j,v,B,];exact⟨by rw[tG (by rw[q];simp[C])],i⟩
   | true=>
     simp[e,cj,cd, V,W,Y, dM,j,v,B, -nw];exact an _ i (by rw[q];simp[n,C]) _ (by simp) (by simp) (by simp) (by simp) (by simp) (by simp) (by simp) (by simp) _ λ_ aa a b=>by
      simp;exact⟨by simpa using b,a⟩
 ·rintro _ _ a;simp;refine hQ _ _ _ ?_;simp[kM,q];exact a
end
section
variable{P:bu}{ak:Nat}{ai:Nat->Nat}{lc bo:Value}{T:bd}
theorem TS(o:ep X)(c:bs pm aj)(i:ll P)(ez:cl P ak aj ai lc bo T)(u:dx P T){t:Nat}(v:t<=100000)(w:gQ P T t):
 Call X pm F.oT [.pointer (some ⟨ai 0,0,none⟩)] aj λr aa=>K pm aj aa/\r=.int .i64 (c2 (kv P T)):=by
 refine Call.P o.oT rfl λ_ x=>?_;have z:=i.n;have z:=i.m;have j:=ez.t;obtain⟨q,i,y⟩:=k9 (ai 2) P.m;rw[i]at j;obtain⟨p,e⟩:∃p:Nat->Bool,p=λi=>decide (off P T.v (T.rows i)≠0):=⟨_,rfl⟩;simp[j,-Fp]
 refine eE (σ:=Unit) P.m (λk _=>[(0,.pointer (some ⟨ai 0,0,none⟩)),(3,.int .i64 (c2 (dL p T.rows k))),(9,.slice q P.m P.m)])
  (λk _ aa=>K pm aj aa) () (by simp[dL,c2]) (K.refl c) ?_ ?_
 ·rintro k _ _ f g;obtain rfl:=y (by omega);have y:=g.h;have q:0<P.n+P.m:=by omega
  have h:0<P.m:=by omega
  have i:=ez.k c g;have r:=i.t;rw[cO (b:=ai 1) q]at r;obtain⟨_,z,_,j⟩:=i.r h;have A:=j k f;have j:=u.r k f;obtain⟨az,u,B,C,D,E,F⟩:=(i.v q).load j;simp[z,A,f,r,D,E,j,-Fq];refine aq.of (eA:=by simp[bB]) (az:=[.agg #[u,B,C]]) (BV o y F (w.v _ j) (aY v (by decide))) ?_;rintro _ _ ⟨s,rfl⟩;have a:=g.trans s;have f:=s.h;have f:=ez.k c a;have l:=f.t;rw[cO (b:=ai 2) h]at l;obtain⟨_,t,_,G⟩:=f.r h;by_cases c:off P T.v (T.rows k)=0
  ·have b:(off P T.v (T.rows k)==0)=true:=by simpa using c
   simp[b,bz];exact⟨by rw[tG (by rw[e];simp[c])],a⟩
  ·have m:(off P T.v (T.rows k)==0)=false:=by simpa using c
   have n:p k=true:=by rw[e];simp[c]
   cases d:dL p T.rows k with
   | none=>
     simp[m,c2,bz];exact⟨by simp[dL,d,n],a⟩
   | some b=>
     have c:=tF d;have f:b<P.m:=by omega
     have g:=G b f;by_cases c:T.rows k<T.rows b
     ·simp[m,c2, l,t,g,f,c];exact⟨by simp[dL,d,n,c],a⟩
     ·simp[m,c2, l,t,g,f,c];exact⟨by simp[dL,d,n,c],a⟩
 ·rintro _ _ a;simp;refine x _ _ _ ?_;simp[kv,e];exact a
end
section
variable{P:bu}{ak:Nat}{ai:Nat->Nat}{lc bo:Value}{T:bd}{c:Nat->Rat}
theorem SK(q:Rat):-1<=ck q/\ck q<=1:=by
 unfold ck;split
 ·omega
 ·split<;>omega
def vz(P:bu)(c:Nat->Rat)(T:bd):Option Nat->Int
 | none=>0
 | some k=>hp P c T k
theorem Oe(l:ep X)(m:bs pm aj)(L:ll P)(ez:cl P ak aj ai lc bo T)(ix:dx P T){t:Nat}(ht:t<=100000)(hs:gQ P T t){w:Value}(hw:mm aj w P.n (red P c T)){jj:Nat}(an:jj<=30000000)(O:∀k,k<P.n->aS (red P c T k) jj):
 Call X pm F.oL [.pointer (some ⟨ai 0,0,none⟩),w] aj λr aa=>K pm aj aa/\r=.tuple #[.int .i64 (c2 (enters P c T)),.int .i64 (vz P c T (enters P c T))]:=by
 refine Call.P l.oL rfl λ_ Q=>?_;have ar:=L.n;have ar:=L.m;have y:jj<=fo:=aY an (by decide);obtain⟨R,g,rfl,S⟩:=hw.ex;obtain⟨p,s⟩:∃p:Nat->Bool,p=λk=>decide (red P c T k≠0)&&can P T.v (T.a k) (-ck (red P c T k)):=⟨_,rfl⟩;have U:enters P c T=dL p T.a P.n:=by rw[s];rfl
 simp[-D9,-Ea]
 refine eE (σ:=Unit) P.n (λk _=>[(0,.pointer (some ⟨ai 0,0,none⟩)),(1,.slice R P.n g),(6,.int .i64 (c2 (dL p T.a k))),(9,.slice R P.n g)])
  (λk _ aa=>K pm aj aa) () (by simp[dL,c2]) (K.refl m) ?_ ?_
 ·rintro k _ V e h;have a:=h.h;have t:0<P.n:=by omega
  have W:0<P.n+P.m:=by omega
  have z:=ez.k m h;have u:=z.t;rw[cO (b:=ai 1) W,cO (b:=ai 3) t]at u;obtain⟨v,w,_,_,Y,rfl,L,y3,y4,R⟩:=S k e;have Z:=h.some m L;have n:=R.up h;obtain⟨_,A,_,L⟩:=z.c t;have ao:=L k e;have B:=ix.c k e;obtain⟨az,va,vb,vc,C,v2,v3⟩:=(z.v W).load B;have ab:=O k e;have ae:=a.lt u;have af:=a.lt C;have ag:=a.lt A;have z:=a.lt Z
  have aq:∀(o:ad),K pm aj o->p k=true->∀L:bb,aK 0 L=some (.pointer (some ⟨ai 0,0,none⟩))->aK 1 L=some (.slice (some ⟨v,w,none⟩) P.n g)->aK 6 L=some (.int .i64 (c2 (dL p T.a k)))->aK 7 L=some (.int .i64 (k:Int))->
   aK 9 L=some (.slice (some ⟨v,w,none⟩) P.n g)->aK 10 L=some (.int .i64 (P.n:Int))->aK 11 L=some (.int .i64 (k:Int))->∀z:b5,(∀R aa,K pm aj aa->Sub [(11,.int .i64 (k:Int)),(10,.int .i64 (P.n:Int)),(0,.pointer (some ⟨ai 0,0,none⟩)),(1,.slice (some ⟨v,w,none⟩) P.n g),(6,.int .i64 (c2 (dL p T.a (k+1)))),(9,.slice (some ⟨v,w,none⟩) P.n g)] R->z .normal R aa)->
   wp X pm (.code nv) L o [] z:=by
   intro o D E L q F i G H I J z M;have c:=D.h;have g:=ez.k m D;have x:=g.t;rw[cO (b:=ai 3) t]at x;obtain⟨_,N,_,d3⟩:=g.c t;have ad:=d3 k e;have ah:=c.lt x;have ak:=c.lt N;simp;refine cy.of c.ah rfl ?_;have d:K pm aj (o.up 19):=D.trans ((K.refl c).up 19)
   cases j:dL p T.a k with
   | none=>
     rw[j]at i;simp[b7,c.none,c.J, i,G,    c2,cj,cd,  bz];exact M _ _ d (by simp[q,F,H,I,J,dL,j,E,c2,])
   | some b=>
     rw[j]at i;have g:=tF j;have p:b<P.n:=by omega
     have t:=d3 b p;by_cases g:T.a k<T.a b
     ·simp[b7,c.none,c.J,q,i,G,x,N,ad,t,e,p,c2,cj,cd,   ah,ak,g];exact M _ _ d (by simp[q,F,H,I,J,dL,j,E,c2, g])
     ·simp[b7,c.none,c.J,q,i,G,x,N,ad,t,e,p,c2,cj,cd,   ah,ak,g];exact M _ _ d (by simp[q,F,H,I,J,i,dL,j,E,c2, g])
  simp[Z,y3,y4,e,-nv];refine cy.of a.ah rfl ?_;simp[b7, a.J,-nv];have d:K pm V (V.up 23):=(K.refl a).up 23;refine gS d.h (az:=[Y]) (by simp[a.none]) rfl (λal f=>jR f (jr l.tozg f (n.up d).of (ab.bw y))) ?_;rintro _ _-⟨rfl,rfl⟩;by_cases r:red P c T k=0
  ·have b:(ck (red P c T k)==0)=true:=by simp[hB,r]
   simp[b,bz,a.none,-nv];refine fL.not (by simp[a.none]) ?_;simp[bz,a.none,-nv];refine fL.not (by simp[a.none]) ?_;simp[bz,a.none,cj,cd,  dM];exact⟨by rw[tG (by rw[s];simp[r])],h.trans d⟩
  ·have g:(ck (red P c T k)==0)=false:=by simp[hB,r]
   have p:ck (red P c T k)=1∨ck (red P c T k)=-1:=(jH r).imp (·.2) (·.2);have F:wr .i64 (-ck (red P c T k))=-ck (red P c T k):=b8;simp[g,a.none,u,C,A,ao,e,B,v2,-nv];refine eM d.h (az:=[Y]) (by simp[a.none]) rfl (λal f=>jR f (jr l.tozg f (n.up d).of (ab.bw y))) ?_;rintro _ _-⟨rfl,rfl⟩;simp[a.none,F,-nv];refine gS (eA:=by simp[bB]) d.h (az:=[.agg #[va,vb,vc],.int .i64 (-ck (red P c T k))]) (by simp[a.none]) rfl (λal f=>GR l f (v3.k d) (hs.v _ B) (aY ht (by decide))) ?_;rintro _ o b rfl;have i:=b.res a;have j:=h.trans (d.trans b);have q:=λb=>lz (n.up d) (d.some a u) b;have x:=λb=>lz (n.up d) (d.some a C) b;have D:=λb=>lz (n.up d) (d.some a A) b
   cases E:can P T.v (T.a k) (-ck (red P c T k)) with
   | false=>
     simp[i,cj,cd, ae,af,ag, dM,q,x,D];exact⟨by rw[tG (by rw[s];simp[E])],j⟩
   | true=>
     simp[i,cj,cd, ae,af,ag, dM,q,x,D,-nv];exact aq _ j (by rw[s];simp[r,E]) _ (by simp) (by simp) (by simp) (by simp) (by simp) (by simp) (by simp) _ λ_ aa a b=>by
      simp;exact⟨by simpa using b,a⟩
 ·rintro _ f a;simp[-D'];rw[<-U]
  cases d:enters P c T with
  | none=>
    simp[c2];refine Q _ _ _ ?_;simp[d,c2,vz];exact a
  | some b=>
    have e:b<P.n:=tF (U▸d);obtain⟨_,_,_,_,h,rfl,g,i,j,k⟩:=S b e;have n:=a.some m g;simp[c2,n,i,j,e,-Eb];refine aq.of (az:=[h]) (jr l.tozg a.h (k.up a).of ((O b e).bw y)) ?_;rintro _ f ⟨rfl,rfl⟩;have e:wr .i64 (-ck (red P c T b))=-ck (red P c T b):=by
     have:=SK (red P c T b);exact b8
    simp[e];refine Q _ _ _ ?_;simp[d,c2,vz,hp];exact a
end
section
variable{P:bu}{ak:Nat}{ai:Nat->Nat}{lc bo:Value}{T:bd}
theorem RW(m:Perm)(a:Array Value)(k:IntKind)(i:Int):ed m [.agg a,.int k i]=[]:=rfl
theorem IQ{t:Nat}(d:gQ P T t)(e:dx P T){af:Nat}(f:af<P.n){aG:Int}:∀{i:Nat},i<=P.m->∀q,(dn P T af aG i).Y=some q->aS q (4*t+2):=by
 have g:∀x w r,x<P.n+P.m->room P T.v x w=some r->aS r (2*t+1):=λx w r j h=>by
  have a:=d.v x j;unfold room at h;split at h
  ·rename_i u b;cases h;split at b
   ·exact s3 (a.up u b) a.v
   ·cases b
  ·split at h
   ·rename_i l c;cases h;split at c
    ·exact s3 a.v (a.ah l c)
    ·cases c
   ·cases h
 intro i
 induction i with
 | zero=>
   intro _ q h;exact en (g _ _ _ (e.c af f) h) (by omega)
 | succ i ih=>
   intro _ q h;rw[dn]at h;have ih:=ih (by omega);split at h
   ·exact ih q h
   ·rename_i k;split at h
    ·exact ih q h
    ·rename_i r m;have a:aS (r/cX (T.M i af)) (4*t+2):=by
      have n:=g _ _ _ (e.r i (by omega)) m;have o:aS (cX (T.M i af)) (2*t+1):=by
       have:=en (d.M i af (by omega) f) (show t<=2*t+1 by omega);unfold cX;split
       ·exact oF this
       ·exact this
      have:=yG n o (by have:=jt k;grind);exact en this (by omega)
     unfold fD.add at h;split at h
     ·cases h;exact a
     ·split at h
      ·cases h;exact a
      ·exact ih q h
theorem Sn{t:Nat}{v:Nat->Rat}{x:Nat}(a:wm P v x t){w:Int}{r:Rat}(h:room P v x w=some r):aS r (2*t+1):=by
 unfold room at h;split at h
 ·rename_i u b;cases h;split at b
  ·exact s3 (a.up u b) a.v
  ·cases b
 ·split at h
  ·rename_i l c;cases h;split at c
   ·exact s3 a.v (a.ah l c)
   ·cases c
  ·cases h
theorem Qh(j:ep X)(c:bs pm aj)(po:ll P)(ez:cl P ak aj ai lc bo T)(ix:dx P T){t:Nat}(ht:t<=100000)(A:gQ P T t){af:Nat}(k:af<P.n){aG:Int}(aI:aG=1∨aG=-1):
 Call X pm F.oO [.pointer (some ⟨ai 0,0,none⟩),.int .i64 (af:Int),.int .i64 aG] aj λr aa=>K pm aj aa/\∃f,r=.tuple #[f,.int .i64 (c2 (dn P T af aG P.m).ind)]/\eJ aa f (dn P T af aG P.m).Y:=by
 refine Call.P j.oO rfl λ_ hQ=>?_;have aw:=po.n;have aw:=po.m;have J:t<=fo:=aY ht (by decide);have au:4*t+2<=fo:=aY (show 4*t+2<=500000 by omega) (by decide);have av:2*t+1<=fo:=aY (show 2*t+1<=500000 by omega) (by decide);have aw:0<P.n:=by omega
 have M:0<P.n+P.m:=by omega
 have ae:=ez.t;rw[cO (b:=ai 1) M,cO (b:=ai 3) aw]at ae;obtain⟨_,g,B,c3⟩:=ez.c aw;have aJ:=c3 af k;have ag:=ix.c af k;obtain⟨az,va,vb,vc,v1,v2,v3⟩:=(ez.v M).load ag;have aL:=c.lt ae;have aM:=c.lt v1;have aN:=c.lt g;simp[-yX];refine cy.of c.ah rfl ?_;have kU:K pm aj (aj.up 25):=(K.refl c).up 25;simp[b7,c.none,c.J,ae,g,aJ,k,ag,v1,v2,-yX];refine eM (eA:=by simp[bB]) kU.h (az:=[.agg #[va,vb,vc],.int .i64 aG]) (by simp[c.none]) rfl (λax v=>Ku j v (v3.k kU) (A.v _ ag) (aY ht (by decide))) ?_;rintro f1 H1 N aw;have x1:=N.res c;have ae:=kU.trans N;obtain⟨aJ,aO,aP⟩:=k9 (ai 4) P.m;have ag:=ae.some c ez.t;rw[aO]at ag;simp[x1,cj,cd,aL,aM,aN,jT,dM,RW,ag,-Ej]
 refine eE (σ:=Value) P.m (λi f=>[(0,.pointer (some ⟨ai 0,0,none⟩)),(1,.int .i64 (af:Int)),(2,.int .i64 aG),(8,f),(9,.int .i64 (c2 (dn P T af aG i).ind)),(10,.int .i64 ((dn P T af aG i).mg:Int)),(41,.slice aJ P.m P.m)])
  (λi f aa=>K pm aj aa/\eJ aa f (dn P T af aG i).Y) f1 (by simp[dn,c2]) ⟨ae,by simpa [dn]using aw⟩ ?_ ?_
 ·rintro i f H2 d ⟨O,hf⟩;obtain rfl:=aP (by omega);have a:=O.h;have C:0<P.m:=by omega
  have D:=ez.k c O;obtain⟨_,m1,_,m3⟩:=D.m C;have ae:=m3 i d;obtain⟨_,p1,_,p3⟩:=D.row i d;obtain⟨E,ag,w⟩:=p3 af k;have F:=A.M i af d k;simp[m1,ae,d,p1,ag,k,-Eo,-El];refine aq.of (az:=[E]) (jr j.tozg a w.of (F.bw J)) ?_;rintro _ H2 ⟨rfl,rfl⟩;by_cases l:T.M i af=0
  ·simp[hB,l];have e:dn P T af aG (i+1)=dn P T af aG i:=by rw[dn,aT l]
   rw[e];exact⟨_,⟨rfl,rfl,rfl⟩,O,hf⟩
  ·have Q:=D.t;rw[cO (b:=ai 1) M,cO (b:=ai 2) C]at Q;obtain⟨_,r1,_,r3⟩:=D.r C;have aQ:=r3 i d;have R:=ix.r i d;obtain⟨_,aR,wb,wc,w1,w2,w3⟩:=(D.v M).load R;have q0:=a.lt Q;have q1:=a.lt w1;have q2:=a.lt r1;have D:=yy aI l;have aU:wr .i64 (aG*ck (T.M i af))=aG*ck (T.M i af):=b8;simp[hB,l,-vG];refine cy.of a.ah rfl ?_;have e:K pm H2 (H2.up 19):=(K.refl a).up 19;simp[b7,a.none,a.J,Q,r1,aQ,d,R,w1,w2,-vG];refine eM e.h (az:=[E]) (by simp[a.none]) rfl (λax v=>jR v (jr j.tozg v (w.up e).of (F.bw J))) ?_;rintro _ _-⟨rfl,rfl⟩;simp[a.none,aU,-vG];refine gS (eA:=by simp[bB]) e.h (az:=[.agg #[aR,wb,wc],.int .i64 (aG*ck (T.M i af))]) (by simp[a.none]) rfl (λax v=>Ku j v (w3.k e) (A.v _ R) (aY ht (by decide))) ?_;rintro aV H3 v G;have x2:=v.res a;have D:=e.trans v;have ah:=O.trans D;have g3:=ah.h;have ay:=λv=>lz (w.up e) (e.some a Q) v;have aA:=λv=>lz (w.up e) (e.some a w1) v;have aB:=λv=>lz (w.up e) (e.some a r1) v;have ak:=w.up D;have al:=hf.up D;obtain⟨fp,rfl⟩:=al.ptr
   cases H:room P T.v (T.rows i) (aG*ck (T.M i af)) with
   | none=>
     rw[H]at G;obtain rfl:aV=.pointer none:=G;simp[x2,cj,cd,q0,q1,q2, dM,ay,aA,aB,-Ek];have e:dn P T af aG (i+1)=dn P T af aG i:=by rw[dn,aC l,H]
     rw[e];exact⟨_,⟨rfl,rfl,rfl⟩,ah,al⟩
   | some r=>
     rw[H]at G;obtain⟨rb,rfl,_⟩:=id G;have aD:=Sn (A.v _ R) H;have aE:aS (cX (T.M i af)) (2*t+1):=by
      have:=en F (show t<=2*t+1 by omega);unfold cX;split
      ·exact oF this
      ·exact this
     have a:cX (T.M i af)≠0:=by have:=jt l;grind
     have aF:=en (yG aD aE a) (show 2*(2*t+1)<=4*t+2 by omega);have x:dn P T af aG (i+1)=(dn P T af aG i).add (r/cX (T.M i af)) i (T.rows i):=by rw[dn,aC l,H]
     have aH:∀(y:ad) (z:Value),K pm H3 y->b9 y z (cX (T.M i af))->∀L:bb,aK 0 L=some (.pointer (some ⟨ai 0,0,none⟩))->aK 1 L=some (.int .i64 (af:Int))->aK 2 L=some (.int .i64 aG)->aK 8 L=some (.pointer fp)->aK 9 L=some (.int .i64 (c2 (dn P T af aG i).ind))->aK 10 L=some (.int .i64 ((dn P T af aG i).mg:Int))->aK 11 L=some (.int .i64 (i:Int))->aK 13 L=some z->
      aK 14 L=some (.pointer (some ⟨rb,0,none⟩))->aK 41 L=some (.slice (some ⟨ai 4,0,none⟩) P.m P.m)->aK 42 L=some (.int .i64 (P.m:Int))->aK 43 L=some (.int .i64 (i:Int))->∀S:b5,
      (∀e aa l,K pm aj aa->eJ aa l (dn P T af aG (i+1)).Y->Sub [(43,.int .i64 (i:Int)),(42,.int .i64 (P.m:Int)),(0,.pointer (some ⟨ai 0,0,none⟩)),(1,.int .i64 (af:Int)),(2,.int .i64 aG),(8,l),(9,.int .i64 (c2 (dn P T af aG (i+1)).ind)),(10,.int .i64 ((dn P T af aG (i+1)).mg:Int)),(41,.slice (some ⟨ai 4,0,none⟩) P.m P.m)] e->S .normal e aa)->wp X pm (.code qZ) L y [] S:=by
      intro y z k4 e L f m n U l9 V o l an p q s S ao;simp[an,l,-Er,-En];refine aq.of (az:=[.pointer (some ⟨rb,0,none⟩),z]) (vT j.tozg k4.h (G.up k4).of e.of (aD.bw av) (aE.bw av) a) ?_;rintro _ W ⟨k5,_,rfl,Y⟩;obtain⟨xb,rfl,_⟩:=id Y;have a:=k4.trans k5;have Z:=ah.trans a;have t:=k5.h;have e:=ez.k c Z;have I:=e.t;rw[cO (b:=ai 2) C]at I;obtain⟨_,s1,_,c⟩:=e.r C;have ar:=c i d;have y0:=t.lt I;have y2:=t.lt s1;have aC:K pm W (W.up 12):=(K.refl t).up 12;have u:=al.up a
      have ab:∀L:bb,aK 0 L=some (.pointer (some ⟨ai 0,0,none⟩))->aK 1 L=some (.int .i64 (af:Int))->aK 2 L=some (.int .i64 aG)->aK 11 L=some (.int .i64 (i:Int))->aK 107 L=some (.bool true)->
       aK 14 L=some (.pointer (some ⟨xb,0,none⟩))->aK 41 L=some (.slice (some ⟨ai 4,0,none⟩) P.m P.m)->aK 42 L=some (.int .i64 (P.m:Int))->aK 43 L=some (.int .i64 (i:Int))->dn P T af aG (i+1)=⟨some (r/cX (T.M i af)),some i,T.rows i⟩->wp X pm (.code s') L W [] S:=by
       intro L f m n o a an p q s b;simp[a];refine cy.of t.ah rfl ?_;simp[b7,t.none,t.J,f,o,an,I,s1,ar,d,cj,cd,y0,y2,];exact ao _ _ (.pointer (some ⟨xb,0,none⟩)) (Z.trans aC) (by rw[b];exact Y.up aC) (by simp[f,m,n,p,q,s,b,c2])
      have a:r/cX (T.M i af)=r/cX (T.M i af):=rfl;generalize r/cX (T.M i af)=ad at Y aF x ab
      cases h:(dn P T af aG i).Y with
      | none=>
        rw[h]at u;cases u;simp[U,bz,-s'];exact ab _ (by simp[f]) (by simp[m]) (by simp[n]) (by simp[o]) (by simp) (by simp) (by simp[p]) (by simp[q]) (by simp[s]) (by rw[x,fD.add,h])
      | some b=>
        rw[h]at u;obtain⟨r,K,_⟩:=id u;cases K;have a:=IQ A ix k (CD d) b h;simp[U,-Ep,-Em];refine aq.of (eA:=by simp) (az:=[.pointer (some ⟨xb,0,none⟩),.pointer (some ⟨r,0,none⟩)]) (q8 j.tozg t Y.of u.of (aF.bw au) (a.bw au)) ?_;rintro _ W ⟨rfl,rfl⟩;by_cases g:ad<b
        ·simp[qa,g,bz,-s'];exact ab _ (by simp[f]) (by simp[m]) (by simp[n]) (by simp[o]) (by simp) (by simp) (by simp[p]) (by simp[q]) (by simp[s]) (by rw[x,fD.add,h];simp[g])
        ·by_cases B:ad=b
         ·have c:(lx ad b==0)=true:=by simp[cmp_eq,B]
          by_cases a:T.rows i<(dn P T af aG i).mg
          ·simp[qa,g,c, f,V,o,I,s1,ar,d,a,-s'];exact ab _ (by simp[f]) (by simp[m]) (by simp[n]) (by simp[o]) (by simp) (by simp) (by simp[p]) (by simp[q]) (by simp[s]) (by rw[x,fD.add,h];simp[B,a])
          ·simp[qa,g,c, f,V,o,I,s1,ar,d,a];have c:dn P T af aG (i+1)=dn P T af aG i:=by rw[x,fD.add,h];simp[g,a]
           exact ao _ _ (.pointer (some ⟨r,0,none⟩)) Z (by rw[c,h];exact u) (by simp[f,m,n,U,l9,V,p,q,s,c])
         ·have a:(lx ad b==0)=false:=by simp[cmp_eq,B]
          simp[qa,g,a,bz];have a:dn P T af aG (i+1)=dn P T af aG i:=by rw[x,fD.add,h];simp[g,B]
          exact ao _ _ (.pointer (some ⟨r,0,none⟩)) Z (by rw[a,h];exact u) (by simp[f,m,n,U,l9,V,p,q,s,a])
     simp[x2,cj,cd,q0,q1,q2, dM,ay,aA,aB,-qZ];refine aq.of (az:=[E]) (jr j.tozg g3 ak.of (F.bw J)) ?_;rintro _ H3 ⟨rfl,rfl⟩;by_cases a:T.M i af<0
     ·simp[K',a,-qZ];refine aq.of (az:=[E]) (wa j.tozg g3 ak.of (F.bw J)) ?_;rintro z y ⟨b,c⟩;simp[-qZ];refine aH y z b (by rw[cX,aT a];exact c) _ (by simp) (by simp) (by simp) (by simp) (by simp) (by simp) (by simp) (by simp) (by simp) (by simp) (by simp) (by simp) _ λ_ aa b c d e=>?_;simp;exact⟨b,by simpa using e,c,d⟩
     ·simp[K',a,-qZ];refine aH H3 E (K.refl g3) (by rw[cX,aC a];exact ak) _ (by simp) (by simp) (by simp) (by simp) (by simp) (by simp) (by simp) (by simp) (by simp) (by simp) (by simp) (by simp) _ λ_ aa a b c d=>?_;simp;exact⟨a,by simpa using d,b,c⟩
 ·rintro f H1 ⟨N,a⟩;simp;refine hQ _ _ _ ?_;simp;exact⟨N,a⟩
end
structure kC(ab:aI)(P:bu)(c:Nat->Rat):Prop where
 n:P.n=ab.a.length
 m:P.m=ab.rows.length
 cost:∀j,j<P.n->c j=rd (ab.af j).cost
theorem kC.ok{ab:aI}{P:bu}{c:Nat->Rat}(h:kC ab P c)(a:ab.ok):ll P:=⟨by rw[h.n];exact a.c,by rw[h.m];exact a.r⟩
section
variable{P:bu}{ak:Nat}{ai:Nat->Nat}{lc bo:Value}{T:bd}{c:Nat->Rat}{ab:aI}
theorem OG{row:List Value}{k:Nat}{a b c d e:Value}(h:bx row k 5=some [a,b,c,d,e]):row[k+3]? = some d:=by
 unfold bx at h;by_cases a:k+5<=row.length
 ·rw[cg,ix a,cond_true]at h;have h:=jF h;have:(List.take 5 (List.drop k row))[3]? = some d:=by rw[h];rfl
  rw[kZ (by omega),ki]at this;exact this
 ·rw[cg,l0 a,cond_false]at h;cases h
theorem wL(b:ab.ok)(a:kC ab P c){x:Nat}:aS (e2 P c x) 10000:=by
 unfold e2;split
 ·rename_i h;rw[a.cost x h];have c:x<ab.a.length:=by rw[<-a.n];exact h
  exact jg (k:=10000) (b.cs (ab.af x) (eB (aI.jv c))).2.2
 ·exact pR (by decide)
theorem G5(b:ep X)(f:bs pm aj)(k:ab.ok)(l:ab.I=true)(d:kC ab P c)(ez:cl P ak aj ai lc bo T)(j:gC aj lc ab.a){x:Nat}(_:x<100000):
 Call X pm F.nt [.pointer (some ⟨ai 0,0,none⟩),.int .i64 (x:Int)] aj λr aa=>K pm aj aa/\b9 aa r (e2 P c x):=by
 refine Call.P b.nt rfl λ_ g=>?_;obtain⟨_,_,rfl,m⟩:=j.at;have h:=ez.t;by_cases a:x<P.n
 ·have i:x<ab.a.length:=by rw[<-d.n];exact a
  obtain⟨_,_,_,_,_,rfl,n,o,p,c,e,rfl⟩:=m x i;have j:=eB e;have m:=aI.zW e;have q:=OG p;have e:=G1 (xy l j);have l:=(k.cs c j).2.2;have j:c.cost≠[]:=by rintro k;rw[k]at e;simp[isNum,HP]at e
  simp[h,i,n,o,q];refine aq.of (az:=[aA c.cost]) (td b f λ_=>e) ?_;rintro r _ ⟨e,c⟩;rw[fc,aC j]at c;simp;refine g _ _ _ ?_;simp;exact⟨e,by rw[e2,aT a,d.cost x a,m];exact c⟩
 ·have c:¬x<ab.a.length:=by rw[<-d.n];exact a
  simp[h,c];refine aq.of (az:=[.int .i64 0]) (o0 b.tozg f (n:=0) (by omega) (by omega)) ?_;rintro r _ ⟨b,c⟩;simp;refine g _ _ _ ?_;simp;exact⟨b,by rw[e2,aC a];simpa using c⟩
def hT(P:bu)(c:Nat->Rat)(T:bd)(i k:Nat):Rat:=e2 P c (T.a k)+a1 (λi=>e2 P c (T.rows i)*T.M i k) i
theorem yl(a:ab.ok)(b:kC ab P c){t:Nat}(d:gQ P T t){k:Nat}(e:k<P.n):∀{i:Nat},i<=P.m->aS (hT P c T i k) (10001+i*(10001+t))
 | 0,_=>by
   rw[hT,a1,na];exact en (wL a b) (by omega)
 | i+1,_=>by
   have ih:=yl a b d e (i:=i) (by omega);have:hT P c T (i+1) k=hT P c T i k+e2 P c (T.rows i)*T.M i k:=by
    rw[hT,hT,a1];grind
   rw[this];refine en (s0 ih (kt (wL a b) (d.M i k (by omega) e))) ?_;rw[hS];omega
theorem Sh(l:ep X)(I:bs pm aj)(J:K pm aj H)(N:ll P){a cR:Nat}(x:aj.next<=a)(O:cR≠a){d M:Nat->Rat}{q:Rat}{t jj:Nat}(z:aS q 10000)(R:t<=100000)(S:∀k,k<P.n->aS (M k) t)(T:jj<=10000000)(U:∀k,k<P.n->aS (d k) jj)
 (V:dI H cR P.n P.n M) (n:0<P.n->dI H a P.n P.n d) {w:Value} (A:b9 H w q) {L:bb} {i:Nat} {yQ yR:Value} (W:aK 0 L=some yQ) (Y:aK 3 L=some (aP a P.n)) (Z:aK 7 L=some (.slice (some ⟨cR,0,none⟩) P.n P.n)) (l8:aK 8 L=some w)
 (ab:aK 30 L=some yR) (ae:aK 31 L=some (.int .i64 (P.m:Int))) (af:aK 32 L=some (.int .i64 (i:Int))) {Q:b5}
 (ag:∀aN aa,K pm aj aa->h0 a H aa->(0<P.n->dI aa a P.n P.n λk=>d k+q*M k)->Sub [(32,.int .i64 (i:Int)),(31,.int .i64 (P.m:Int)),(0,yQ),(3,aP a P.n),(30,yR)] aN->Q .normal aN aa):
 wp X pm (.code vL) L H [] Q:=by
 have ak:=N.n;have B:t<=fo:=aY R (by decide);have ah:jj<=fo:=aY T (by decide);obtain⟨o,rfl,_⟩:=id A;simp[Z,-E9]
 refine eE (σ:=Unit) P.n (λ_ _=>[(32,.int .i64 (i:Int)),(31,.int .i64 (P.m:Int)),(0,yQ),(3,aP a P.n),(30,yR),(49,.slice (some ⟨cR,0,none⟩) P.n P.n),(8,.pointer (some ⟨o,0,none⟩))])
  (λk _ aa=>K pm aj aa/\h0 a H aa/\(0<P.n->dI aa a P.n P.n λy=>if y<k then d y+q*M y else d y)) () (by simp[W,Y,l8,ab,ae,af]) ⟨J,h0.refl,λh=>(n h).congr λy _=>by simp⟩ ?_ ?_
 ·rintro k _ e c ⟨p,f,h⟩;have b:=p.h;have h:=h (by omega);obtain⟨_,H,_,J⟩:=V;obtain⟨r,L,N⟩:=J k c;have Q:=f cR _ O H;have s:=S k c;obtain⟨X,i,d2,C⟩:=id h;obtain⟨qk,ai,D⟩:=C k c;have H:(λy=>if y<k then d y+q*M y else d y) k=d k:=by simp
  rw[H]at D;have u:b9 e r (M k):=f.cB (n (by omega)).choose_spec.1 N;have E:b9 e (.pointer (some ⟨o,0,none⟩)) q:=f.cB (n (by omega)).choose_spec.1 A;have nx:∀(aa:ad) (n:Value),dI aa a P.n P.n (λy=>if y=k then d k+q*M k else if y<k then d y+q*M y else d y)->dI aa a P.n P.n λy=>if y<k+1 then d y+q*M y else d y:=λaa n n=>n.congr λy _=>by
   by_cases d:y=k
   ·subst d;simp
   ·by_cases g:y<k
    ·simp[d,g,show y<k+1 by omega]
    ·simp[d,g,show ¬y<k+1 by omega]
  simp[Q,L,c,-Fg,-Fb];refine aq.of (az:=[r]) (jr l.tozg b u.of (s.bw B)) ?_;rintro _ e ⟨rfl,rfl⟩;by_cases v:M k=0
  ·simp[hB,v];refine⟨p,f,λ_=>h.congr λy _=>?_⟩;by_cases d:y=k
   ·subst d;simp[v,na]
   ·by_cases d:y<k
    ·simp[d,show y<k+1 by omega]
    ·simp[d,show ¬y<k+1 by omega]
  ·have M:=b.lt i;rw[cO (show 0<P.n by omega)];simp[hB,v];refine cy.of b.ah rfl ?_;have d:K pm e (e.up 12):=(K.refl b).up 12;simp[b7,b.none,b.J,i,ai,c];have dj:=λm=>nO (E.up d) (u.up d) (d.some b i) m;refine eM d.h (az:=[.pointer (some ⟨o,0,none⟩),r]) (by simp[b.none]) rfl (λaa q=>pY l.tozg q (E.up d).of (u.up d).of (z.bw (by decide)) (s.bw B)) ?_;rintro e _ g f6;have h:=g.res b;simp;refine gS g.h (az:=[qk,e]) (by simp[h]) rfl (λaa q=>q5 l.tozg q ((D.up d).up g).of f6.of ((U k c).bw ah) ((kt z s).bw (aY (show 10000+t<=110000 by omega) (by decide)))) ?_;rintro _ _ w F;have x2:=(K.trans g w).res b;have j:=d.trans (g.trans w);have G:=j.some b i;obtain⟨_,rfl,_⟩:=id F;have d:∀o,Perm.may ⟨pm.ah,pm.ok,o⟩ a=true:=λo=>eG (aY I.ah x);simp[x2,G,c,d,show k<X.length by omega,cj,cd,M, dM,dj];obtain⟨e,g⟩:=dI.put (m:=aj.next) w.h x G d2 (λy a=>(C y a).imp λ_ d=>⟨d.1,d.2.up j⟩) c F (dd:=P.n) (λy a=>.inr a);exact⟨aF.trans (p.trans j) e,f.trans (h0.trans (j.Od b) h0.put),λ_=>nx _ (.pointer none) g⟩
 ·rintro _ _ ⟨a,b,c⟩;simp;exact ag _ _ a b (λh=>(c h).congr λ_ a=>by simp[a]) (by simp)
end
theorem h1.N8{v:Value}{i n:Nat}{x:Nat->Rat}(h:h1 pm n H v i x)(ez:i=0->v=.slice none 0 0):∃a,v=aP a i/\(0<i->n<=a/\dI H a i i x):=by
 obtain⟨c,o,b,e,f⟩:=h;by_cases h:i=0
 ·subst h;exact⟨0,ez rfl,λh=>by omega⟩
 ·cases o with
  | none=>
    obtain⟨rfl,_,rfl⟩:=b;exact absurd rfl h
  | some d=>
    obtain⟨rfl,g,h⟩:=b;exact⟨d,(cO (by omega)).symm,λ_=>⟨(e d rfl).1,c,h,by simpa using g,f⟩⟩
section
variable{P:bu}{ak:Nat}{ai:Nat->Nat}{lc bo:Value}{T:bd}{c:Nat->Rat}{ab:aI}
theorem cl.lt(h:cl P ak H ai lc bo T)(g:bs pm H){i:Nat}(aJ:i<P.m):ai (5+i)<H.next:=by
 obtain⟨_,a,_⟩:=h.row i aJ;exact g.lt a
theorem Kp(j:ep X)(a:bs pm aj)(g:ab.ok)(v:ab.I=true)(h:kC ab P c)(ez:cl P ak aj ai lc bo T)(w:gC aj lc ab.a)(x:dx P T){t:Nat}(G:t<=100000)(y:gQ P T t):
 Call X pm F.nA [.pointer (some ⟨ai 0,0,none⟩)] aj λr aa=>K pm aj aa/\mm aa r P.n (red P c T):=by
 refine Call.P j.nA rfl λ_ H=>?_;have p:=h.ok g;have z:=p.n;have z:=p.m;have z:=ez.t;obtain⟨I,J,L⟩:=k9 (ai 3) P.n;rw[J]at z;simp[z,-E8,-Fa]
 refine eE (σ:=Value) P.n (λ_ u=>[(0,.pointer (some ⟨ai 0,0,none⟩)),(3,u),(14,.slice I P.n P.n)])
  (λk u aa=>K pm aj aa/\h1 pm aj.next aa u k (hT P c T 0)/\(k=0->u=.slice none 0 0)) (.slice none 0 0) (by simp) ⟨K.refl a,h1.nil,λ_=>rfl⟩ ?_ ?_
 ·rintro k u _ e ⟨d,n,_⟩;obtain rfl:=L (by omega);have f:=d.h;have i:=ez.k a d;obtain⟨_,o,_,q⟩:=i.c (by omega);have s:=q k e;have q:=x.c k e;simp[o,s,e,-Ff];refine aq.of (az:=[.pointer (some ⟨ai 0,0,none⟩),.int .i64 (T.a k:Int)]) (G5 j f g v h i (w.ext (d.ext a)) (by omega)) ?_;rintro r _ ⟨b,l⟩;obtain⟨_,t,m,A⟩:=(n.k f b).app (cc:=8) b.h l (by omega) (by omega) (d.trans b).next;have B:(λe=>if e=k then e2 P c (T.a k) else hT P c T 0 e)=hT P c T 0:=by
   funext e;by_cases c:e=k
   ·subst c;simp[hT,a1,na]
   ·simp[c]
  rw[B]at m;obtain⟨_,rfl,_⟩:=id l;simp[b.h.pick,b.h.make,fill,setCells,t];exact⟨aF.trans (d.trans b) A,m⟩
 ·rintro u N ⟨s,O,Q⟩;have u:=s.h;obtain⟨A,rfl,u⟩:=O.N8 Q;obtain⟨R,z,S⟩:=k9 (ai 4) P.m;have B:=s.some a ez.t;rw[z]at B;obtain⟨f,U,V,W⟩:∃f,aP A P.n=aP f P.n/\aj.next<=f/\(0<P.n->dI N f P.n P.n (hT P c T 0)):=by
   by_cases b:P.n=0
   ·exact⟨aj.next,by simp[aP,b],bg _,λ_=>by omega⟩
   ·obtain⟨c,d⟩:=u (by omega);exact⟨A,rfl,c,λ_=>d⟩
  rw[U];simp[B,-E7]
  refine eE (σ:=Unit) P.m (λ_ _=>[(0,.pointer (some ⟨ai 0,0,none⟩)),(3,aP f P.n),(30,.slice R P.m P.m)])
   (λi _ aa=>K pm aj aa/\(0<P.n->dI aa f P.n P.n (hT P c T i))) () (by simp) ⟨s,W⟩ ?_ ?_
  ·rintro i _ _ e ⟨n,C⟩;obtain rfl:=S (by omega);have o:=n.h;have l:=ez.k a n;obtain⟨_,u,_,s⟩:=l.m (by omega);have z:=s i e;obtain⟨_,A,_,s⟩:=l.r (by omega);have B:=s i e;have s:=l.t;rw[cO (b:=ai 2) (show 0<P.m by omega)]at s;have I:=x.r i e;simp[u,z,e,s,A,B,-Fe,-E'];refine aq.of (az:=[.pointer (some ⟨ai 0,0,none⟩),.int .i64 (T.rows i:Int)]) (G5 j o g v h l (w.ext (n.ext a)) (by omega)) ?_;rintro r s ⟨m,D⟩;have E:=n.trans m;have F:∀k,hT P c T (i+1) k=hT P c T i k+e2 P c (T.rows i)*T.M i k:=λk=>by rw[hT,hT,a1];grind
   simp[-Fc,-vL];refine aq.of (az:=[r]) (jr j.tozg m.h D.of ((wL g h).bw (by decide))) ?_;rintro _ s ⟨rfl,rfl⟩;by_cases b:e2 P c (T.rows i)=0
   ·simp[hB,b];exact⟨E,λc=>((C c).k o m).congr λk _=>by rw[F,b];grind⟩
   ·have n:ai (5+i)≠f:=by
     have:=ez.lt a e;omega
    simp[hB,b,-vL];refine Sh j a E p V n (q:=e2 P c (T.rows i)) (M:=T.M i) (d:=hT P c T i) (t:=t) (jj:=10000000) (wL g h) G (λk a=>y.M i k e a) (by omega) (λk a=>en (yl g h y a (CD e)) ?_) ((l.row i e).k o m) (λh=>(C h).k o m) D (yQ:=.pointer (some ⟨ai 0,0,none⟩)) (yR:=.slice (some ⟨ai 4,0,none⟩) P.m P.m) (i:=i) (by simp) (by simp) (by simp) (by simp) (by simp) (by simp) (by simp) λ_ aa a _ b e=>?_
    ·have:i*(10001+t)<=40*110001:=gK (by omega) (by omega);omega
    ·simp;exact⟨by simpa using e,a,λh=>(b h).congr λk _=>F k⟩
  ·rintro _ _ ⟨a,b⟩;simp;refine H _ _ _ ?_;simp;refine⟨a,?_⟩;by_cases h:P.n=0
   ·rw[h];exact⟨none,0,rfl,λi a=>absurd a (hz _)⟩
   ·rw[cO (by omega)];exact(b (by omega)).row
end
abbrev tyF:Nat:=T.TY
theorem fq{b c:Nat}(h:b≠c):du [b] [c]=true:=by simp[du,h]
theorem aF.fill(u:aF pm n H aa){c:Nat}(h:n<=c)(AW:aa.get c=none)(d:c<aa.next)(x:bk):aF pm n H (aa.put c x) where
 h:=⟨⟨u.h.num,u.h.ah,λb a=>by
  have a:aa.next<=b:=a;rw[ad.O,aC (by omega)];exact u.h.wf b a,λb a=>trivial⟩,by
  show(aa.put c x).get 1=_;rw[ad.O,aC]
  ·exact u.h.dD
  ·rintro rfl;rw[u.h.dD]at AW;cases AW⟩
 next:=u.next
 get:=λb a=>by rw[ad.O,aC (by omega)];exact u.get b a
 cr:=λb o e=>by
  have e:=u.cr b o e;rw[ad.O,aC]
  ·exact e
  ·rintro rfl;rw[e]at AW;cases AW
section
variable{P:bu}{ak:Nat}{ai:Nat->Nat}{lc bo:Value}{T:bd}{c:Nat->Rat}{ab:aI}
theorem gQ.mono{t b:Nat}(h:gQ P T t)(a:t<=b):gQ P T b:=⟨λx b=>⟨λl e=>en ((h.v x b).ah l e) a,λl e=>en ((h.v x b).up l e) a,en (h.v x b).v a⟩,λi k b c=>en (h.M i k b c) a⟩
theorem Ou(i:ep X)(g0:bs pm aj)(al:pm.ah<=ak)(Y:ak<=aj.next)(n:ll P)(G:bd->Prop){t:Nat}(Z:1<=t)(ht:t<=20000)(hG:∀T,G T->Inv P T/\gQ P T t/\Ends (hr P) T)(aH:∀T g,G T->hr P T=some g->G g)(ez:cl P ak aj ai lc bo T)(p:G T):
 Call X pm F.oM [.pointer (some ⟨ai 0,0,none⟩)] aj λr aa=>∃g,aF pm ak aj aa/\cl P ak aa ai lc bo g/\G g/\(kv P g=none/\r=.tuple #[.int .i64 0,.bool true]∨∃a,kv P g=some a/\kM P g a (off P g.v (g.rows a))=none/\r=.tuple #[.int .i64 a,.bool false]):=by
 refine Call.P i.oM rfl λaI hQ=>?_;have g:=n.n;have g:=n.m;simp[-Ec];refine ef.of (σ:=bd) (λ_=>[(0,.pointer (some ⟨ai 0,0,none⟩))]) (λT H=>aF pm ak aj H/\cl P ak H ai lc bo T/\G T) (left (hr P)) T (by simp) ⟨aF.refl g0,ez,p⟩ ?_;rintro T _ ⟨u1,t1,p⟩;obtain⟨g,q,aJ⟩:=hG T p;have I:=g.y;have g1:=u1.h;simp[-Eg,-Ee];refine aq.of (az:=[.pointer (some ⟨ai 0,0,none⟩)]) (TS i g1 n t1 I (t:=t) (by omega) q) ?_;rintro _ c ⟨s,rfl⟩;have ab:=aY Y u1.next;have u2:=u1.k s ab
 cases J:kv P T with
 | none=>
   simp[c2];refine hQ _ _ _ ?_;simp;exact⟨u2,T,t1.k g1 s,p,J⟩
 | some a=>
   obtain⟨eA,M,_⟩:=lr J;have M:off P T.v (T.rows a)≠0:=by simpa using M
   have f:=s.h;have L:=t1.k g1 s;have ad:=I.r a eA;have g:0<P.n+P.m:=by omega
   have N:0<P.m:=by omega
   have ae:=L.t;rw[cO (b:=ai 1) g,cO (b:=ai 2) N]at ae;obtain⟨_,r1,_,r3⟩:=L.r N;have aL:=r3 a eA;obtain⟨az,_,_,_,v1,v2,v⟩:=(L.v g).load ad;have aM:=f.lt ae;have aN:=f.lt v1;have aO:=f.lt r1;simp[c2,-yW];refine cy.of f.ah rfl ?_;obtain⟨O,rfl⟩:=v.ah.ptr;obtain⟨Q,rfl⟩:=v.up.ptr;obtain⟨R,rfl,_⟩:=id v.v;obtain⟨r,S⟩:∃r,r=((c.up 15).put (c.next+13) (.cells [.pointer none,.pointer none,.pointer none] (.t tyF))).put (c.next+13) (.cells [.pointer O,.pointer Q,.pointer (some ⟨R,0,none⟩)] (.t tyF)):=⟨_,rfl⟩;have an:((c.up 15).put (c.next+13) (.cells [.pointer none,.pointer none,.pointer none] (.t tyF))).get (c.next+14)=none:=by rw[a7];exact f.none 14
   have g:K pm c (c.up 15):=(K.refl f).up 15;have u:K pm c r:=by
    rw[S];exact aF.put (aF.fill g (e9 _ _) (f.none 13) (by show c.next+13<c.next+15;omega) _) (e9 _ _) b1 (by simp) _
   have af:r.get (c.next+13)=some (.cells [.pointer O,.pointer Q,.pointer (some ⟨R,0,none⟩)] (.t tyF)):=by rw[S];exact b1
   have g:=λo=>eG (ok:=pm.ok) (o:=o) (ah:=pm.ah) (b:=c.next+13) (aY f.ah (e9 _ _));have ao:=f.none 13;have ar:=fq (show c.next+13≠ai 0 by omega);have au:=fq (show c.next+13≠ai 1 by omega);have av:=fq (show c.next+13≠ai 2 by omega);simp[b7,f.none,f.J,ae,r1,aL,eA,v1,v2,ad,Perm.make,Perm.pick,ptr,bB,<-S, an,g,cj,cd,aM,aN,aO, dM,ar,au,av,-yW];clear S an ar au av ao;have h:=u.h;have u3:=u2.k u (aY ab s.next);have y:=q.v _ ad;have aw:=h.lt af;have ag:K pm r (r.up 6):=(K.refl h).up 6;simp[-yV];refine cy.of h.ah rfl ?_;simp[b7,h.none,h.J,af,bx,-yV];have ao:=aw;generalize c.next+13=b at*
   refine eM (eA:=by simp[bB]) ag.h (az:=[.agg #[.pointer O,.pointer Q,.pointer (some ⟨R,0,none⟩)]]) (by simp[h.none]) rfl (λax z=>BV i z ((v.k u).k ag) y (by omega)) ?_;rintro _ H4 k4 rfl;have g:=k4.res h;have c:=ag.trans k4;have ay:=c.some h af;have u4:=u3.k c (aY (aY ab s.next) u.next);have t4:=(L.k f u).k h c;have v4:=(v.k u).k c;have g4:=u4.h;have aA:=aY Y u4.next;simp[g,cj,cd,aw,jT,dM,ed,-vF];obtain⟨w,j⟩:∃w,w=off P T.v (T.rows a):=⟨_,rfl⟩;have k:=xH M;rw[<-j]at k|-
   have aB:∀(U:Value) (L:bb),b9 H4 U (goal P (T.rows a) w)->aK 0 L=some (.pointer (some ⟨ai 0,0,none⟩))->aK 4 L=some (.int .i64 (a:Int))->aK 5 L=some (.pointer (some ⟨b,0,none⟩))->aK 6 L=some (.int .i64 w)->aK 7 L=some U->
    wp X pm (.code vF) L H4 [] λx l H=>(x=.ret/\kM P T a w=none/\aK 2 l=some (.int .i64 (a:Int))/\aK 3 l=some (.bool false)/\aF pm ak aj H/\cl P ak H ai lc bo T)∨(x=.normal/\∃d,kM P T a w=some d/\aK 0 l=some (.pointer (some ⟨ai 0,0,none⟩))/\aF pm ak aj H/\cl P ak H ai lc bo (gW P T a d)):=by
    intro U L aP A V l5 c l7;simp[A,V,c,-Eh,-Ef];refine aq.of (eA:=by simp[]) (az:=[.pointer (some ⟨ai 0,0,none⟩),.int .i64 (a:Int),.int .i64 w]) (ON i g4 n t4 I (t:=t) (by omega) q eA k) ?_;rintro _ H5 ⟨o,rfl⟩;have e:=o.h;have B:=t4.k g4 o;have u5:=u4.k o aA
    cases hh:kM P T a w with
    | none=>
      simp[c2,V];exact⟨u5,B⟩
    | some d=>
      obtain⟨C,c,_⟩:=lr hh;simp only[b3,df]at c;have X:=c.1;have aa:=o.some g4 ay;have H:=B.t;rw[cO (b:=ai 4) N]at H;obtain⟨_,m1,_,c⟩:=B.m N;have aF:=c a eA;obtain⟨_,p1,_,c⟩:=B.row a eA;obtain⟨pc,aK,aQ⟩:=c d C;have q0:=e.lt H;have q1:=e.lt m1;have q2:=e.lt p1;have q3:=e.lt aa;have m:K pm H5 (H5.up 20):=(K.refl e).up 20;simp[c2,-vE];refine cy.of e.ah rfl ?_;simp[b7,e.none,e.J,A,V,l5,l7,aa,H,m1,aF,eA,p1,aK,C,-vE];have c:=K.trans o m;have D:=aP.up c;have E:=v4.v.up c;have f:=m.some e H;have F:=m.some e m1;have g:=m.some e p1;have h:=m.some e aa;have j0:=λc=>nO D E f c;have j1:=λc=>nO D E F c;have j2:=λc=>nO D E g c;have f:=λc=>nO D E h c;have aj:=q.M a d eA C;have ak:aS (goal P (T.rows a) w) t:=by
       unfold goal
       rcases k with k | k
       ·rw[k,aC (by decide)]
        cases b:P.ah (T.rows a) with
        | none=>exact pR Z
        | some l=>exact y.ah l b
       ·rw[k,aT (by decide)]
        cases b:P.up (T.rows a) with
        | none=>exact pR Z
        | some l=>exact y.up l b
      have ah:t<=fo:=aY ht (by decide);have aR:2*t+1<=fo:=aY (show 2*t+1<=50000 by omega) (by decide);have aD:=s3 ak y.v;have aU:aS (qh P T a d) (4*t+2):=by
       unfold qh;rw[<-j];exact en (yG aD (en aj (by omega)) X) (by omega)
      refine eM m.h (az:=[U,.pointer (some ⟨R,0,none⟩)]) (by simp[e.none]) rfl (λax z=>zp i.tozg z D.of E.of (ak.bw ah) (y.v.bw ah)) ?_;rintro c _ W f6;have f:=W.res e;have aE:=m.trans W;have aV:=aQ.up aE;simp[-vE];refine gS W.h (az:=[c,pc]) (by simp[f]) rfl (λax z=>vT i.tozg z f6.of aV.of (aD.bw aR) (aj.bw ah) X) ?_;rintro _ _ k7 ⟨p7,rfl,c⟩;have k:=(K.trans W k7).res e;have f:=aE.trans k7;have m:=k7.h;have g:=u5.k f (aY aA o.next);have h:=aY Y g.next;have o:=B.k e f;have e:(goal P (T.rows a) w-T.v (T.rows a))/T.M a d=qh P T a d:=by rw[qh,j]
      rw[e]at c;simp[k,cj,cd,q0,q1,q2,q3, dM,j0,j1,j2, A,-Ed];refine aq.of (eA:=by simp) (az:=[.pointer (some ⟨ai 0,0,none⟩),.int .i64 (d:Int),p7]) (Jd i m al h n o I (t:=4*t+2) (by omega) (q.mono (by omega)) C c aU) ?_;rintro _ _ ⟨c,e⟩;have f:=aY h c.next;simp[A,V];refine aq.of (eA:=by simp[]) (az:=[.pointer (some ⟨ai 0,0,none⟩),.int .i64 (a:Int),.int .i64 (d:Int)]) (J' i c.h al f n e (t:=t) Z (by omega) (λi k e f=>q.M i k e f) eA C X) ?_;rintro _ _ ⟨e,f⟩;simp[A];exact⟨(g.trans c).trans e,f⟩
   have aG:∀x l H,((x=.ret/\kM P T a w=none/\aK 2 l=some (.int .i64 (a:Int))/\aK 3 l=some (.bool false)/\aF pm ak aj H/\cl P ak H ai lc bo T)∨(x=.normal/\∃d,kM P T a w=some d/\aK 0 l=some (.pointer (some ⟨ai 0,0,none⟩))/\aF pm ak aj H/\cl P ak H ai lc bo (gW P T a d)))->wp X pm (.res x) l H [.aW 1] λx l' aa=>match x with
    | .normal=>jk (λ(_:bd)=>[(0,.pointer (some ⟨ai 0,0,none⟩))]) (λT H=>aF pm ak aj H/\cl P ak H ai lc bo T/\G T) (left (hr P)) T l' aa
    | x=>wp X pm (.res x) l' aa [.aW 0] aI:=by
    rintro x l H (⟨rfl,b,m,o,e,t⟩ | ⟨rfl,d,b,A,e,t⟩)
    ·simp;refine hQ _ _ _ ?_;simp[m,o];exact⟨e,T,t,p,a,J,by rw[<-j];exact b,rfl⟩
    ·simp;have c:hr P T=some (gW P T a d):=by rw[hr,J];simp only;rw[<-j,b]
     exact jk.of (gW P T a d) (IM aJ c) (by simpa using A) ⟨e,t,aH _ _ p c⟩
   simp[ay,-vF]
   rcases sg M with⟨F,l,g',_⟩ | ⟨F,l,g',_⟩
   ·have a:w=1:=j.trans F;refine⟨λ_=>by omega,λ_=>wp_cut _ (aB (.pointer O) _ ?_ (by simp) (by simp) (by simp) (by simp) (by simp)) aG⟩;have:=v4.ah;rw[g']at this;rw[goal,aC (by omega),g'];exact this
   ·have a:w=-1:=j.trans F;refine⟨λ_=>wp_cut _ (aB (.pointer Q) _ ?_ (by simp) (by simp) (by simp) (by simp) (by simp)) aG,λ_=>by omega⟩;have:=v4.up;rw[g']at this;rw[goal,aT (by omega),g'];exact this
end
section
variable{P:bu}{ak:Nat}{ai:Nat->Nat}{lc bo:Value}{T:bd}{c:Nat->Rat}{ab:aI}
theorem NZ(b:ep X)(w:bs pm aj)(M:pm.ah<=ak)(g:ak<=aj.next)(s:ab.ok)(hm:ab.I=true)(v:kC ab P c)(_:gC aj lc ab.a)(al:∀aa,aF pm ak aj aa->gC aa lc ab.a)(G:bd->Prop){t:Nat}(an:1<=t)(a:t<=20000)(Q:∀T,G T->Inv P T/\gQ P T t/\Ends (gk P c) T)(ao:∀T a,G T->gk P c T=some a->G a)(ez:cl P ak aj ai lc bo T)(h:G T):
 Call X pm F.oK [.pointer (some ⟨ai 0,0,none⟩)] aj λr aa=>∃a,aF pm ak aj aa/\cl P ak aa ai lc bo a/\G a/\(enters P c a=none/\r=.tuple #[.int .i64 (-1),.int .i64 0]∨∃af,enters P c a=some af/\(dn P a af (hp P c a af) P.m).Y=none/\r=.tuple #[.int .i64 af,.int .i64 (hp P c a af)]):=by
 refine Call.P b.oK rfl λar N=>?_;have i:=v.ok s;have a:=i.n;have au:=i.m;simp[-D0];refine ef.of (σ:=bd) (λ_=>[(0,.pointer (some ⟨ai 0,0,none⟩))]) (λT H=>aF pm ak aj H/\cl P ak H ai lc bo T/\G T) (left (gk P c)) T (by simp) ⟨aF.refl w,ez,h⟩ ?_;rintro T _ ⟨a,O,h⟩;obtain⟨w,d,av⟩:=Q T h;have j:=w.y;have Q:=a.h;have aw:=aY g a.next;simp[-D4,-yU];refine aq.of (az:=[.pointer (some ⟨ai 0,0,none⟩)]) (Kp b Q s hm v O (al _ a) j (t:=t) (by omega) d) ?_;rintro al _ ⟨w,hd⟩;have R:=w.h;have S:=a.k w aw;have ax:=aY g S.next;have U:=O.k Q w;have a:∀k,k<P.n->aS (red P c T k) 10000000:=λk y=>en (yl s v d y (bg P.m)) (by
  have:P.m*(10001+t)<=40*30001:=gK au (by omega);omega)
 simp[-D3,-yU];refine aq.of (az:=[.pointer (some ⟨ai 0,0,none⟩),al]) (Oe b R i U j (t:=t) (by omega) d hd (jj:=10000000) (by omega) a) ?_;rintro _ _ ⟨z,rfl⟩;have V:=z.h;have A:=S.k z ax;have ay:=aY g A.next;have B:=U.k R z
 cases o:enters P c T with
 | none=>
   simp[c2,vz];refine N _ _ _ ?_;simp;exact⟨A,T,B,h,o⟩
 | some af=>
   obtain⟨p,W,_⟩:=lr o;simp only[b3,df]at W;have Y:hp P c T af=1∨hp P c T af=-1:=by
    unfold hp
    rcases jH W.1 with⟨_,e⟩ | ⟨_,e⟩<;>rw[e]<;>simp
   obtain⟨aG,m⟩:∃aG,aG=hp P c T af:=⟨_,rfl⟩;rw[<-m]at Y;simp[c2,vz,<-m,-D5,-D2];refine aq.of (az:=[.pointer (some ⟨ai 0,0,none⟩),.int .i64 (af:Int),.int .i64 aG]) (Qh b V i B j (t:=t) (by omega) d p Y) ?_;rintro _ Z ⟨C,aA,rfl,f⟩;have D:=C.h;have E:=A.k C ay;have aB:=aY g E.next;have t4:=B.k V C;have ab:=BG P T af aG P.m;have ae:=IQ d j p (aG:=aG) (bg P.m);obtain⟨L,F⟩:∃L,L=dn P T af aG P.m:=⟨_,rfl⟩;rw[<-F]at ab ae f|-
   cases n:L.Y with
   | none=>
     rw[n]at f;obtain rfl:aA=.pointer none:=f;simp;refine N _ _ _ ?_;simp;exact⟨E,T,t4,h,af,o,by rw[<-m,<-F];exact n,rfl,m⟩
   | some q=>
     rw[n]at f;obtain⟨fb,rfl,_⟩:=id f;have I:=ae q n;have a:gk P c T=some (gU P T af aG q L.ind):=by rw[gk,o];simp only;rw[<-m,<-F,n]
     have aD:=IM av a;have aE:=ao _ _ h a
     have ag:∀(e:ad) (u:Value) (l:bb),K pm Z e->b9 e u (if aG<0 then -q else q)->aK 0 l=some (.pointer (some ⟨ai 0,0,none⟩))->aK 4 l=some (.int .i64 (af:Int))->aK 6 l=some u->aK 7 l=some (.int .i64 (c2 L.ind))->
      wp X pm (.code vD) l e [] λx l H=>x=.normal/\aK 0 l=some (.pointer (some ⟨ai 0,0,none⟩))/\aF pm ak aj H/\cl P ak H ai lc bo (gU P T af aG q L.ind):=by
      intro e u l J hu r l4 l6 l7;have aa:aS (if aG<0 then -q else q) (4*t+2):=by
       split
       ·exact oF I
       ·exact I
      have a:=E.k J aB;have h:=aY g a.next;simp[r,l4,l6,-D1];refine aq.of (eA:=by simp[]) (az:=[.pointer (some ⟨ai 0,0,none⟩),.int .i64 (af:Int),u]) (Jd b J.h M h i (t4.k D J) j (t:=4*t+2) (by omega) (d.mono (by omega)) p hu aa) ?_;rintro _ _ ⟨u6,t6⟩;have K:=a.trans u6;have ad:=aY g K.next
      cases c:L.ind with
      | none=>
        simp[l7,c,c2,r];exact⟨K,t6⟩
      | some a=>
        obtain⟨eA,g,_⟩:=ab.row a c;simp[l7,c,c2,r,l4];refine aq.of (eA:=by simp[  ]) (az:=[.pointer (some ⟨ai 0,0,none⟩),.int .i64 (a:Int),.int .i64 (af:Int)]) (J' b u6.h M ad i t6 (t:=t) an (by omega) (λi k c y=>d.M i k c y) eA p g) ?_;rintro _ _ ⟨a,d⟩;simp[r];exact⟨K.trans a,d⟩
     have ah:∀x l H,(x=.normal/\aK 0 l=some (.pointer (some ⟨ai 0,0,none⟩))/\aF pm ak aj H/\cl P ak H ai lc bo (gU P T af aG q L.ind))->wp X pm (.res x) l H [.aW 1] λx l' aa=>match x with
      | .normal=>jk (λ(_:bd)=>[(0,.pointer (some ⟨ai 0,0,none⟩))]) (λT H=>aF pm ak aj H/\cl P ak H ai lc bo T/\G T) (left (gk P c)) T l' aa
      | x=>wp X pm (.res x) l' aa [.aW 0] ar:=by
      rintro x l H ⟨rfl,a,u,t⟩;simp;exact jk.of _ aD (by simpa using a) ⟨u,t,aE⟩
     simp[-vD];refine⟨λa=>?_,λ_=>?_⟩
     ·refine aq.of (az:=[.pointer (some ⟨fb,0,none⟩)]) (wa b.tozg D f.of (I.bw (aY (show 4*t+2<=90000 by omega) (by decide)))) ?_;rintro u e ⟨b,c⟩;simp[-vD];exact wp_cut _ (ag e u _ b (by rw[aT a];exact c) (by simp) (by simp) (by simp) (by simp)) ah
     ·exact wp_cut _ (ag Z _ _ (K.refl D) (by rw[aC (by omega)];exact f) (by simp) (by simp) (by simp) (by simp)) ah
end
def dT(H:ad)(c n:Nat)(f:Nat->List UInt8):Prop:=∃a,H.get c=some (.cells a (.n 1))/\a.length=n/\∀i,i<n->a[i]? = some (aA (f i))
theorem dT.k{c n:Nat}{f:Nat->List UInt8}(h:dT H c n f)(g:bs pm H)(k:K pm H aa):dT aa c n f:=let ⟨a,b,d⟩:=h;⟨a,k.some g b,d⟩
theorem dT.congr{c n:Nat}{f lC:Nat->List UInt8}(h:dT H c n f)(e:∀i,i<n->lC i=f i):dT H c n lC:=let ⟨a,b,d,g⟩:=h;⟨a,b,d,λi a=>by rw[e i a];exact g i a⟩
theorem dT.put{m c n:Nat}{f:Nat->List UInt8}{bN:List Value}(g:bs pm H)(a:m<=c)(b:H.get c=some (.cells bN (.n 1)))(d:bN.length=n)(h:∀i,i<n->bN[i]? = some (aA (f i))){i:Nat}(aJ:i<n)(s:List UInt8):
 aF pm m H (H.put c (.cells (bN.set i (aA s)) (.n 1)))/\dT (H.put c (.cells (bN.set i (aA s)) (.n 1))) c n λj=>if j=i then s else f j:=by
 refine⟨aF.put (.refl g) a b (by simp) _,_,b1,by simp[d],λj k=>?_⟩;by_cases e:j=i
 ·subst e;rw[uX (by omega)];simp
 ·rw[sz (Ne.symm e),h j k];simp[e]
theorem dT.e7{c n b:Nat}{f:Nat->List UInt8}(h:dT H c n f)(a:b≠c)(x:bk):dT (H.put b x) c n f:=let ⟨d,e,g⟩:=h;⟨d,by rw[a7 (h:=Ne.symm a)];exact e,g⟩
theorem dT.strs{c n:Nat}{f:Nat->List UInt8}(h:dT H c n f){cap:Nat}:iN H (.slice (some ⟨c,0,none⟩) n cap) ((List.range n).map f):=by
 obtain⟨b,d,_,e⟩:=h;refine⟨some ⟨c,0,none⟩,cap,by simp,λi a=>?_⟩;have a:i<n:=by simpa using a
 exact⟨c,0,_,b,_,rfl,d,rfl,by rw[Nat.zero_add];exact e i a,f i,by simp[a],rfl⟩
theorem vv(v:Value):∀n,(times [v] n).length=n
 | 0=>rfl
 | n+1=>by rw[times,ot,vv v n];simp;omega
theorem s5(v:Value):∀n i,i<n->(times [v] n)[i]? = some v
 | n+1,0,_=>by simp[times]
 | n+1,i+1,_=>by
   have:=s5 v n i (by omega);simpa [times]using this
theorem LO(g:ep X)(d:bs pm aj){n:Nat}(j:n<=1000):Call X pm F.nC [.int .i64 (n:Int)] aj λr aa=>K pm aj aa/\∃c,r=.slice (some ⟨c,0,none⟩) n n/\aj.next<=c/\dT aa c n λ_=>[48]:=by
 refine Call.P g.nC rfl λ_ h=>?_;simp[lK d.tobR (show n<=1073741824 by omega) (show 16*n<=17179869184 by omega),-Fs];obtain⟨c,f⟩:∃c,c=aj.next:=⟨_,rfl⟩;have a:K pm aj (aj.new (.cells (times [aA []] n) (.n 1))):=K.new d _;have e:dT (aj.new (.cells (times [aA []] n) (.n 1))) c n λi=>if i<0 then[48] else[]:=⟨_,by rw[f];exact b4,vv _ n,λi b=>by simpa using s5 (aA []) n i b⟩
 have g:pm.may c=true:=d.may (by omega);rw[<-f];refine eE (σ:=Unit) n (λ_ _=>[(3,.slice (some ⟨c,0,none⟩) n n)]) (λk _ aa=>K pm aj aa/\dT aa c n λi=>if i<k then[48] else[]) () (by simp) ⟨a,e⟩ ?_ ?_
 ·rintro k _ _ d ⟨a,j,f,l,n⟩;obtain⟨o,p⟩:=dT.put (m:=aj.next) a.h (by omega) f l n d [48];simp[f,d,g,show k<j.length by omega];refine⟨aF.trans a o,p.congr λi b=>?_⟩;by_cases c:i=k
  ·subst c;simp
  ·by_cases d:i<k
   ·simp[c,d,show i<k+1 by omega]
   ·simp[c,d,show ¬i<k+1 by omega]
 ·rintro _ _ ⟨a,e⟩;simp;refine h _ _ _ ?_;simp;exact⟨a,by omega,e.congr λi b=>by simp[b]⟩
section
variable{P:bu}{ak:Nat}{ai:Nat->Nat}{lc bo:Value}{T:bd}{c:Nat->Rat}{ab:aI}
theorem Ke(h:ep X)(d:bs pm aj)(q:ab.ok)(l:kC ab P c)(ez:cl P ak aj ai lc bo T)(s:gC aj lc ab.a){t:Nat}(u:t<=20000)(v:gQ P T t):
 Call X pm F.nz [.pointer (some ⟨ai 0,0,none⟩)] aj λr aa=>K pm aj aa/\∃c,r=.slice (some ⟨c,0,none⟩) P.n P.n/\aj.next<=c/\dT aa c P.n λj=>cZ (T.v j):=by
 refine Call.P h.nz rfl λ_ t=>?_;have n:=l.ok q;have q:=n.n;have q:=n.m;obtain⟨_,_,rfl,_⟩:=s.at;have n:=ez.t;simp only[<-l.n]at n;simp[n,lK d.tobR (show P.n<=1073741824 by omega) (show 16*P.n<=17179869184 by omega),-E0];obtain⟨e,o⟩:∃c,c=aj.next:=⟨_,rfl⟩;have a:K pm aj (aj.new (.cells (times [aA []] P.n) (.n 1))):=K.new d _;have g:dT (aj.new (.cells (times [aA []] P.n) (.n 1))) e P.n λi=>if i<0 then cZ (T.v i) else[]:=⟨_,by rw[o];exact b4,vv _ P.n,λi f=>by simpa using s5 (aA []) P.n i f⟩
 have w:pm.may e=true:=d.may (by omega);rw[<-o];refine eE (σ:=Unit) P.n (λ_ _=>[(0,.pointer (some ⟨ai 0,0,none⟩)),(3,.slice (some ⟨e,0,none⟩) P.n P.n)]) (λk _ aa=>K pm aj aa/\dT aa e P.n λi=>if i<k then cZ (T.v i) else[]) () (by simp) ⟨a,g⟩ ?_ ?_
 ·rintro k _ l j ⟨a,r,p,x,y⟩;have e:=ez.k d a;have d:=e.t;rw[cO (b:=ai 1) (show 0<P.n+P.m by omega)]at d;obtain⟨az,n,_,o⟩:=e.v (by omega);obtain⟨_,_,e,_,c,q,s⟩:=o k (by omega);simp[d,n,q,show k<P.n+P.m by omega,-E1];refine aq.of (az:=[e]) (tv h.tozg a.h s.v.of ((v.v k (by omega)).v.bw (aY u (by decide)))) ?_;rintro _ l ⟨rfl,rfl⟩;obtain⟨d,e⟩:=dT.put (m:=aj.next) a.h (by omega) p x y j (cZ (T.v k));simp[p,j,w,show k<r.length by omega];refine⟨aF.trans a d,e.congr λi f=>?_⟩;by_cases e:i=k
  ·rw[e];simp
  ·by_cases c:i<k
   ·simp[e,c,show i<k+1 by omega]
   ·simp[e,c,show ¬i<k+1 by omega]
 ·rintro _ _ ⟨a,g⟩;simp;refine t _ _ _ ?_;simp;exact⟨a,by omega,g.congr (lC:=λj=>cZ (T.v j)) λi f=>by simp[f]⟩
end
section
variable{P:bu}{ak:Nat}{ai:Nat->Nat}{lc bo:Value}{T:bd}{c:Nat->Rat}{ab:aI}
def kF(P:bu)(T:bd)(d:Nat->Rat):Nat->Nat->List UInt8
 | 0,_=>[48]
 | k+1,i=>if T.a k=P.n+i then cZ (d k) else kF P T d k i
theorem Hj(o:ep X)(h:bs pm aj)(C:ab.ok)(j:kC ab P c)(ez:cl P ak aj ai lc bo T)(D:gC aj lc ab.a)(E:iM aj bo ab.rows)(G:dx P T){d:Nat->Rat}{w:Value}(H:mm aj w P.n d){jj:Nat}(I:jj<=30000000)(J:∀k,k<P.n->aS (d k) jj):
 Call X pm F.nu [.pointer (some ⟨ai 0,0,none⟩),w] aj λr aa=>K pm aj aa/\∃c,r=.slice (some ⟨c,0,none⟩) P.m P.m/\aj.next<=c/\dT aa c P.m (kF P T d P.n):=by
 refine Call.P o.nu rfl λ_ L=>?_;have s:=j.ok C;have C:=s.n;have C:=s.m;have M:jj<=fo:=aY I (by decide);obtain⟨_,_,rfl,_⟩:=D.at;obtain⟨_,_,rfl,_⟩:=E.at;obtain⟨N,O,rfl,Q⟩:=H.ex;have p:=ez.t;simp only[<-j.n,<-j.m]at p;simp[p,-D7,-D8];refine aq.of (az:=[.int .i64 (P.m:Int)]) (LO o h (n:=P.m) (by omega)) ?_;rintro _ _ ⟨t,e,rfl,q,C⟩;have R:∀s,Perm.may ⟨pm.ah,pm.ok,s⟩ e=true:=λs=>eG (aY h.ah q);obtain⟨D,E,S⟩:=k9 (ai 3) P.n;have s:=t.some h p;rw[E]at s;simp[s,-D6];refine eE (σ:=Unit) P.n (λ_ _=>[(0,.pointer (some ⟨ai 0,0,none⟩)),(1,.slice N P.n O),(5,.slice (some ⟨e,0,none⟩) P.m P.m),(18,.slice D P.n P.n)]) (λk _ aa=>K pm aj aa/\dT aa e P.m (kF P T d k)) () (by simp) ⟨t,C⟩ ?_ ?_
 ·rintro k _ r b ⟨f,u,l,v,w⟩;obtain rfl:=S (by omega);have a:=f.h;have p:=ez.k h f;have g:=p.t;simp only[<-j.n,<-j.m]at g;obtain⟨_,x,_,j⟩:=p.c (by omega);have n:=j k b;have j:=G.c k b;by_cases F:P.n<=T.a k
  ·obtain⟨i,y⟩:∃i,T.a k=P.n+i:=⟨T.a k-P.n,by omega⟩;have z:i<P.m:=by omega
   obtain⟨_,_,_,_,T,rfl,j,U,V,p⟩:=Q k b;have A:=f.some h j;have B:=p.up f;have W:=a.lt g;have X:=a.lt A;have Y:=a.lt l;rw[y]at n;have Z:wr .i64 ((P.n:Int)+(i:Int)-(P.n:Int))=(i:Int):=by
    rw[b8];omega
   simp[x,n,b,g];refine⟨λ_=>?_,λ_=>by omega⟩;refine cy.of a.ah rfl ?_;have c:K pm r (r.up 16):=(K.refl a).up 16;simp[b7,a.none,a.J,g,A,U,V,b,Z];have aa:=c.some a l;have ab:=λm=>lz (B.up c) (c.some a g) m;refine eM c.h (az:=[T]) (by simp[a.none]) rfl (λ_ h=>jR h (tv o.tozg h (B.up c).of ((J k b).bw M))) ?_;rintro _ _-⟨rfl,rfl⟩;obtain⟨h,j⟩:=dT.put (m:=aj.next) c.h q aa v w z (cZ (d k));simp[a.none,l,z,R,show i<u.length by omega,cj,cd,W,X,Y, dM,ab];refine⟨aF.trans (K.trans f c) h,j.congr λj _=>?_⟩;rw[kF,y];by_cases e:j=i
   ·simp[e]
   ·rw[aC (by omega),aC e]
  ·simp[x,n,b,g];refine⟨λh=>absurd h F,λ_=>⟨f,u,l,v,λi a=>?_⟩⟩;rw[w i a,kF,aC (by omega)]
 ·rintro _ _ ⟨a,b⟩;simp;refine L _ _ _ ?_;simp;exact⟨a,q,b⟩
end
section
variable{P:bu}{ak:Nat}{ai:Nat->Nat}{lc bo:Value}{T:bd}{c:Nat->Rat}{ab:aI}
def l4(P:bu)(T:bd)(a k:Nat):Rat:=if 0<off P T.v (T.rows a) then -T.M a k else T.M a k
def k8(P:bu)(T:bd)(a i:Nat):List UInt8:=if T.rows a=P.n+i then(if 0<off P T.v (T.rows a) then[49] else[45,49]) else kF P T (l4 P T a) P.n i
theorem SO(n:ep X)(f:bs pm aj)(H:ab.ok)(u:kC ab P c)(ez:cl P ak aj ai lc bo T)(I:gC aj lc ab.a)(V:iM aj bo ab.rows)(J:dx P T){t:Nat}(M:t<=20000)(o:gQ P T t){a:Nat}(eA:a<P.m):
 Call X pm F.oR [.pointer (some ⟨ai 0,0,none⟩),.int .i64 (a:Int)] aj λr aa=>K pm aj aa/\∃c,r=.slice (some ⟨c,0,none⟩) P.m P.m/\aj.next<=c/\dT aa c P.m (k8 P T a):=by
 refine Call.P n.oR rfl λ_ v=>?_;have w:=u.ok H;have L:=w.n;have L:=w.m;have p:0<P.m:=by omega
 have L:0<P.n+P.m:=by omega
 have W:t<=fo:=aY M (by decide);have M:=ez.t;rw[cO (b:=ai 1) L,cO (b:=ai 2) p]at M;obtain⟨_,Y,_,w⟩:=ez.r p;have Z:=w a eA;have w:=J.r a eA;obtain⟨az,va,vb,vc,v1,v2,v3⟩:=(ez.v L).load w;simp[M,Y,Z,eA,v1,v2,w,-Fl,-Fi];refine aq.of (eA:=by simp[bB]) (az:=[.agg #[va,vb,vc]]) (BV n f v3 (o.v _ w) (by omega)) ?_;rintro _ x ⟨q,rfl⟩;have l:=q.h;have w:=ez.k f q;have y:=w.t;obtain⟨_,L,_⟩:=k9 (ai 3) P.n;rw[L,cO (b:=ai 4) p]at y;obtain⟨_,m1,_,L⟩:=w.m p;have ab:=L a eA;obtain⟨g,z⟩:∃c,c=x.next:=⟨_,rfl⟩;obtain⟨s,A⟩:∃s,s=x.new (.cells (times [.pointer none] P.n) (.n 1)):=⟨_,rfl⟩;have p:K pm x s:=by rw[A];exact K.new l _
 have w:=p.h;have N:pm.may g=true:=l.may (by omega);have O:aj.next<=g:=by rw[z];exact q.next
 simp[y,lK l.tobR (show P.n<=1073741824 by omega) (show 8*P.n<=17179869184 by omega),<-A,<-z,p.some l y,p.some l m1,ab,eA,-Fh,-Fk];have l:=q.trans p;have p:dI s g P.n 0 (l4 P T a):=⟨_,by rw[A,z];exact b4,vv _ P.n,λi d=>absurd d (hz _)⟩;have q:∀(aa:ad),ai (5+a)≠g:=λ_=>by
  have:=ez.lt f eA;omega
 refine eE (σ:=Unit) P.n (λ_ _=>[(0,.pointer (some ⟨ai 0,0,none⟩)),(1,.int .i64 (a:Int)),(5,.int .i64 (T.rows a:Int)),(6,.bool (decide (0<off P T.v (T.rows a)))),(7,.slice (some ⟨g,0,none⟩) P.n P.n),(39,.slice (some ⟨ai (5+a),0,none⟩) P.n P.n)]) (λk _ aa=>K pm aj aa/\dI aa g P.n k (l4 P T a)) () (by simp) ⟨l,p⟩ ?_ ?_
 ·rintro k _ Q c ⟨e,l⟩;have p:=e.h;obtain⟨_,R,_,q⟩:=(ez.k f e).row a eA;obtain⟨_,S,h⟩:=q k c;obtain⟨C,D,q,s⟩:=l;obtain⟨b,j⟩:=dI.put (m:=aj.next) p O D q s c h (dd:=k+1) (λi d=>by omega);obtain⟨E,rfl,_⟩:=id h;obtain⟨l,F⟩:∃l,l=Q.put g (.cells (C.set k (.pointer (some ⟨E,0,none⟩))) (.n 1)):=⟨_,rfl⟩;rw[<-F]at b j;simp[R,S,c,D,N,show k<C.length by omega,<-F,-Fo];refine⟨λT=>?_,λ_=>⟨aF.trans e b,j.congr λt U=>?_⟩⟩
  ·have l:=h.up b;refine aq.of (az:=[.pointer (some ⟨E,0,none⟩)]) (wa n.tozg b.h l.of ((o.M a k eA c).bw W)) ?_;rintro r _ ⟨B,G⟩;obtain⟨X,K,h,l⟩:=j.k b.h B;obtain⟨u6,d6⟩:=dI.put (m:=aj.next) B.h O K h l c G (dd:=k+1) (λi d=>by omega);obtain⟨_,rfl,_⟩:=id G;simp[K,c,N,show k<X.length by omega];refine⟨aF.trans ((aF.trans e b).trans (B.mono (aY e.next b.next))) u6,d6.congr λt U=>?_⟩;by_cases P:t=k
   ·subst P;simp[l4,T]
   ·simp[P]
  ·by_cases a:t=k
   ·subst a;simp[l4];omega
   ·simp[a]
 ·rintro _ _ ⟨c,X⟩;have g3:=c.h;have t3:=ez.k f c;have aa:∀k,k<P.n->aS (l4 P T a k) t:=λk Q=>by
   unfold l4;split
   ·exact oF (o.M a k eA Q)
   ·exact o.M a k eA Q
  simp[-Fm,-Fj];refine aq.of (az:=[.pointer (some ⟨ai 0,0,none⟩),.slice (some ⟨g,0,none⟩) P.n P.n]) (Hj n g3 H u t3 (I.ext (c.ext f)) (V.ext (c.ext f)) J X.row (jj:=t) (by omega) aa) ?_;rintro _ B ⟨R,e,rfl,he,S⟩;have C:=c.trans R;have r:=C.some f ez.t;obtain⟨_,_,rfl,_⟩:=I.at;simp only[<-u.n]at r;have j:aj.next<=e:=aY c.next he;have ad:pm.may e=true:=f.may j;by_cases hx:P.n<=T.rows a
  ·obtain⟨i,d⟩:∃i,T.rows a=P.n+i:=⟨T.rows a-P.n,by omega⟩;have t:i<P.m:=by omega
   have ae:wr .i64 ((P.n:Int)+(i:Int)-(P.n:Int))=(i:Int):=by
    rw[b8];omega
   obtain⟨D,U,c,g⟩:=S;obtain⟨E,F⟩:=dT.put (m:=aj.next) R.h j U c g t [45,49];obtain⟨b,G⟩:∃b,b=B.put e (.cells (D.set i (aA [45,49])) (.n 1)):=⟨_,rfl⟩;rw[<-G]at E F;obtain⟨g,k,l,n⟩:=id F;have c:=λy (h:B.get (ai 0)=some y)=>show b.get (ai 0)=some y by
    rw[G,a7 (h:=by have:=f.lt ez.t;omega)];exact h
   have c:=c _ r;obtain⟨o,p⟩:=dT.put (m:=aj.next) E.h j k l n t [49];have f:K pm aj b:=aF.trans C E;rw[d];simp[r];refine⟨λ_=>?_,λh=>by omega⟩;have l:B.put e (.cells (D.set i (.string ⟨#[45,49]⟩)) (.n 1))=b:=G.symm;simp[ae,t,U,ad,show i<D.length by omega,l,c,k,show i<g.length by omega];have k:(decide (0<off P T.v (T.rows a))=false)->dT b e P.m (k8 P T a):=λh=>F.congr λc n=>by
    rw[k8,d];by_cases e:c=i
    ·have h:¬0<off P T.v (T.rows a):=by simpa using h
     rw[d]at h;simp[e,h]
    ·rw[aC (by omega),aC e]
   have l:(0<off P T.v (T.rows a))->dT (b.put e (.cells (g.set i (aA [49])) (.n 1))) e P.m (k8 P T a):=λh=>p.congr λc n=>by
    rw[k8,d];by_cases e:c=i
    ·rw[d]at h;simp[e,h]
    ·rw[aC (by omega),aC e,aC e]
   rw[d]at k l;refine⟨λh=>?_,λh=>?_⟩
   ·refine v _ _ _ ?_;simp;exact⟨aF.trans f o,j,l h⟩
   ·refine v _ _ _ ?_;simp;exact⟨f,j,k (by simpa using h)⟩
  ·simp[r];refine⟨λh=>absurd h hx,λ_=>?_⟩;refine v _ _ _ ?_;simp;refine⟨C,j,S.congr (lC:=k8 P T a) λi d=>?_⟩;rw[k8,aC (by omega)]
end
section
variable{P:bu}{ak:Nat}{ai:Nat->Nat}{lc bo:Value}{T:bd}{c:Nat->Rat}{ab:aI}
def pH(T:bd)(af:Nat)(aG:Int):Nat->Nat->List UInt8
 | 0,x=>if x=T.a af then cZ (aG:Rat) else[48]
 | i+1,x=>if x=T.rows i then cZ (T.M i af*(aG:Rat)) else pH T af aG i x
theorem R7(e:ep X)(j:bs pm aj)(L:ab.ok)(u:kC ab P c)(ez:cl P ak aj ai lc bo T)(Z:gC aj lc ab.a)(y:dx P T){t:Nat}(ht:t<=20000)(hs:gQ P T t){af:Nat}(f:af<P.n){aG:Int}(ae:aG=1∨aG=-1):
 Call X pm F.oQ [.pointer (some ⟨ai 0,0,none⟩),.int .i64 (af:Int),.int .i64 aG] aj λr aa=>K pm aj aa/\∃c,r=.slice (some ⟨c,0,none⟩) P.n P.n/\aj.next<=c/\dT aa c P.n (pH T af aG P.m):=by
 refine Call.P e.oQ rfl λab hQ=>?_;have z:=u.ok L;have L:=z.n;have L:=z.m;have A:0<P.n:=by omega
 have ag:t<=fo:=aY ht (by decide);have v:aS (aG:Rat) 1:=by
  rcases ae with rfl | rfl<;>exact⟨by decide,by decide⟩
 obtain⟨_,_,rfl,_⟩:=Z.at;have z:=ez.t;simp only[<-u.n]at z;simp[z,-E3,-E5];refine aq.of (az:=[.int .i64 (P.n:Int)]) (LO e j (n:=P.n) (by omega)) ?_;rintro _ _ ⟨l,k,rfl,o,B⟩;have C:=l.h;have D:∀z,Perm.may ⟨pm.ah,pm.ok,z⟩ k=true:=λz=>eG (aY j.ah o);have z:=ez.k j l;have p:=z.t;simp only[<-u.n]at p;rw[cO (b:=ai 3) A]at p;obtain⟨_,E,_,u⟩:=z.c A;have G:=u af f;have u:=y.c af f;have H:∀(g:ad) (L:bb),K pm aj g->dT g k P.n (pH T af aG 0)->aK 0 L=some (.pointer (some ⟨ai 0,0,none⟩))->aK 1 L=some (.int .i64 (af:Int))->aK 2 L=some (.int .i64 aG)->aK 7 L=some (.slice (some ⟨k,0,none⟩) P.n P.n)->wp X pm (.code q3) L g [] ab:=by
  intro g L u L z Z l2 l7;have A:=u.h;have A:=u.some j ez.t;obtain⟨b2,e2,ad⟩:=k9 (ai 2) P.m;rw[e2]at A;simp[z,A,-E2];refine eE (σ:=Unit) P.m (λ_ _=>[(0,.pointer (some ⟨ai 0,0,none⟩)),(1,.int .i64 (af:Int)),(2,.int .i64 aG),(7,.slice (some ⟨k,0,none⟩) P.n P.n),(38,.slice b2 P.m P.m)]) (λi _ aa=>K pm aj aa/\dT aa k P.n (pH T af aG i)) () (by simp[z,Z,l2,l7]) ⟨u,L⟩ ?_ ?_
  ·rintro i _ F c ⟨q,I,w,J,M⟩;obtain rfl:=ad (by omega);have a:=q.h;have k:=ez.k j q;obtain⟨_,N,_,j⟩:=k.r (by omega);have O:=j i c;have j:=y.r i c;by_cases d:T.rows i<P.n
   ·have x:=k.t;rw[cO (b:=ai 4) (show 0<P.m by omega)]at x;obtain⟨_,Q,_,j⟩:=k.m (by omega);have aa:=j i c;obtain⟨_,R,_,j⟩:=k.row i c;obtain⟨pc,ah,ak⟩:=j af f;have q0:=a.lt x;have q1:=a.lt Q;have q2:=a.lt R;have q3:=a.lt w;have S:=hs.M i af c f;simp[N,O,c,d];refine cy.of a.ah rfl ?_;have U:K pm F (F.up 18):=(K.refl a).up 18;simp[b7,a.none,a.J,x,Q,aa,c,R,ah,f];refine eM U.h (az:=[.int .i64 aG]) (by simp[a.none]) rfl (λV h=>o0 e.tozg h (n:=aG) (by omega) (by omega)) ?_;rintro j _ r f6;have k:=r.res a;have W:=U.trans r;simp;refine gS r.h (az:=[pc,j]) (by simp[k]) rfl (λV h=>pY e.tozg h (ak.up W).of f6.of (S.bw ag) (v.bw (by decide))) ?_;rintro j _ s f7;have X:=(K.trans r s).res a;have Y:=W.trans s;simp;refine gS s.h (az:=[j]) (by simp[X]) rfl (λV h=>jR h (tv e.tozg h f7.of ((kt S v).bw (aY (show t+1<=30000 by omega) (by decide))))) ?_;rintro _ _-⟨rfl,rfl⟩;have h:=Y.some a w;obtain⟨a,j⟩:=dT.put (m:=aj.next) s.h o h J M d (cZ (T.M i af*(aG:Rat)));simp[X,h,d,D,show T.rows i<I.length by omega,cj,cd,q0,q1,q2,q3,jT,dM,ed];refine⟨aF.trans (q.trans Y) a,j.congr λ_ _=>?_⟩;rw[pH]
   ·simp[N,O,c,d];refine⟨q,I,w,J,λj a=>?_⟩;rw[M j a,pH,aC (by omega)]
  ·rintro _ _ ⟨a,b⟩;simp;refine hQ _ _ _ ?_;simp;exact⟨a,o,b⟩
 by_cases d:T.a af<P.n
 ·simp[p,E,G,f,d,-q3,-E4];refine aq.of (az:=[.int .i64 aG]) (o0 e.tozg C (n:=aG) (by omega) (by omega)) ?_;rintro r g ⟨a,b⟩;simp[-q3,-E6];refine aq.of (az:=[r]) (tv e.tozg a.h b.of (v.bw (by decide))) ?_;rintro _ g ⟨rfl,rfl⟩;obtain⟨c,b,e,g⟩:=B.k C a;obtain⟨h,i⟩:=dT.put (m:=aj.next) a.h o b e g d (cZ (aG:Rat));have e:=D pm.num;simp[b,d,e,show T.a af<c.length by omega,-q3];refine H _ _ (aF.trans (l.trans a) h) i (by simp) (by simp) (by simp) (by simp)
 ·simp[p,E,G,f,d,-q3];refine H _ _ l (B.congr λ_ _=>?_) (by simp) (by simp) (by simp) (by simp);rw[pH,aC (by omega)]
end
def hX(f:Nat->Rat)(c:dq):Nat->Rat:=λj=>if j=c.af.toNat then rd c.v else f j
def hV(l:List dq):Nat->Rat:=l.foldl hX λ_=>0
def aI.nM(ab:aI):bu where
 n:=ab.a.length
 m:=ab.rows.length
 ah:=λx=>if x<ab.a.length then fc (ab.af x).low else if(ab.row (x-ab.a.length)).kind=1 then none else fc (ab.row (x-ab.a.length)).rhs
 up:=λx=>if x<ab.a.length then fc (ab.af x).up else if(ab.row (x-ab.a.length)).kind=3 then none else fc (ab.row (x-ab.a.length)).rhs
 A:=λi j=>hV (ab.row i).j j
def aI.cs(ab:aI)(j:Nat):Rat:=rd (ab.af j).cost
def aI.v0(ab:aI)(x:Nat):Rat:=pN (fc (ab.af x).low) (fc (ab.af x).up)
def aI.L(ab:aI):bd where
 v:=λx=>if x<ab.a.length then ab.v0 x else hI (ab.row (x-ab.a.length)).j ab.v0
 rows:=λi=>ab.a.length+i
 a:=λk=>k
 M:=λi j=>hV (ab.row i).j j
theorem aI.QT(ab:aI):kC ab ab.nM ab.cs:=⟨rfl,rfl,λ_ _=>rfl⟩
def Real(b a c j:Nat):Prop:=j=0∨(j=1/\0<b)∨((j=2∨j=4)/\0<a)∨(j=3/\0<c)∨(5<=j/\j<5+a)
structure fB(P:bu)(ak:Nat)(H:ad)(ai:Nat->Nat)(lc bo:Value)(lJ ct c3:Nat)(T:bd):Prop where
 t:H.get (ai 0)=some (.cells [lc,bo,aP (ai 1) lJ,aP (ai 2) ct,aP (ai 3) c3,aP (ai 4) ct] (.t tyT))
 v:0<lJ->p1 H P (ai 1) lJ T.v
 r:0<ct->mq H (ai 2) ct T.rows
 c:0<c3->mq H (ai 3) c3 T.a
 m:0<ct->tk H (ai 4) ct P.n ai
 row:∀i,i<ct->dI H (ai (5+i)) P.n P.n (T.M i)
 inj:∀i j,Real lJ ct c3 i->Real lJ ct c3 j->ai i=ai j->i=j
 ge:∀i,Real lJ ct c3 i->ak<=ai i
section
variable{P:bu}{ak:Nat}{ai:Nat->Nat}{lc bo:Value}{T:bd}{lJ ct c3:Nat}
theorem fB.k(h:fB P ak H ai lc bo lJ ct c3 T)(g:bs pm H)(k:K pm H aa):fB P ak aa ai lc bo lJ ct c3 T where
 t:=k.some g h.t
 v:=λa=>(h.v a).ext k λ_ e=>k.some g e
 r:=λa=>(h.r a).ext λ_ e=>k.some g e
 c:=λa=>(h.c a).ext λ_ e=>k.some g e
 m:=λa=>(h.m a).ext λ_ e=>k.some g e
 row:=λi a=>(h.row i a).ext k λ_ e=>k.some g e
 inj:=h.inj
 ge:=h.ge
theorem fB.lt(h:fB P ak H ai lc bo lJ ct c3 T)(g:bs pm H){j:Nat}(b:Real lJ ct c3 j):ai j<H.next:=by
 rcases b with rfl | ⟨rfl,a⟩ | ⟨rfl | rfl,a⟩ | ⟨rfl,a⟩ | ⟨a,_⟩
 ·exact g.lt h.t
 ·obtain⟨_,e,_⟩:=h.v a;exact g.lt e
 ·obtain⟨_,e,_⟩:=h.r a;exact g.lt e
 ·obtain⟨_,e,_⟩:=h.m a;exact g.lt e
 ·obtain⟨_,e,_⟩:=h.c a;exact g.lt e
 ·obtain⟨i,rfl⟩:∃i,j=5+i:=⟨j-5,by omega⟩;obtain⟨_,e,_⟩:=h.row i (by omega);exact g.lt e
theorem fB.full(h:fB P ak H ai lc bo (P.n+P.m) P.m P.n T)(g:bs pm H)(A:ak<=H.next):∃e,e 0=ai 0/\cl P ak H e lc bo T:=by
 have m:∀o p k,(0<k->p=o)->aP p k=aP o k:=λo p k l=>by
  by_cases f:k=0
  ·subst f;rfl
  ·rw[l (by omega)]
 obtain⟨R,b⟩:∃R:Nat->Prop,R=Real (P.n+P.m) P.m P.n:=⟨_,rfl⟩;have B:∀j,Decidable (R j):=λj=>by rw[b];unfold Real;exact inferInstance
 obtain⟨e,l⟩:∃e:Nat->Nat,e=λj=>if R j then ai j else H.next+j:=⟨_,rfl⟩
 have a:∀j,R j->e j=ai j:=λj n=>by rw[l];simp[n]
 have s:R 0:=by rw[b];exact .inl rfl
 have t:∀i,i<P.m->R (5+i):=λi d=>by rw[b];exact .inr (.inr (.inr (.inr ⟨by omega,by omega⟩)))
 have u:0<P.n+P.m->R 1:=λh=>by rw[b];exact .inr (.inl ⟨rfl,h⟩)
 have v:0<P.m->R 2:=λh=>by rw[b];exact .inr (.inr (.inl ⟨.inl rfl,h⟩))
 have w:0<P.m->R 4:=λh=>by rw[b];exact .inr (.inr (.inl ⟨.inr rfl,h⟩))
 have x:0<P.n->R 3:=λh=>by rw[b];exact .inr (.inr (.inr (.inl ⟨rfl,h⟩)))
 refine⟨e,a 0 s,?_,λc=>?_,λc=>?_,λc=>?_,λc=>?_,λi d=>?_,λi j d n f=>?_,λi d=>?_⟩
 ·rw[a 0 s,m _ _ _ λh=>a 1 (u h),m _ _ _ λh=>a 2 (v h),m _ _ _ λh=>a 3 (x h),m _ _ _ λh=>a 4 (w h)];exact h.t
 ·rw[a 1 (u c)];exact h.v c
 ·rw[a 2 (v c)];exact h.r c
 ·rw[a 3 (x c)];exact h.c c
 ·rw[a 4 (w c)];obtain⟨g,q,r,y⟩:=h.m c;exact⟨g,q,r,λi d=>by rw[a _ (t i d)];exact y i d⟩
 ·rw[a _ (t i d)];exact h.row i d
 ·have lt:∀j,R j->ai j<H.next:=λj n=>h.lt g (b▸n);rw[l]at f;simp only at f;by_cases q:R i<;>by_cases r:R j<;>simp only[q,r,if_true,if_false]at f
  ·exact h.inj i j (b▸q) (b▸r) f
  ·have:=lt i q;omega
  ·have:=lt j r;omega
  ·omega
 ·rw[l];simp only;split
  ·rename_i z;exact h.ge i (b▸z)
  ·omega
end
def gG(H:ad)(c i:Nat):ad:=if i=0 then H else H.put c .dead
def p3(c i:Nat):List Nat:=if i=0 then[] else[c]
def p4(c i b:Nat):List Nat:=if i=0 then[b] else[c,b]
theorem gV{c i b:Nat}(h:0<i->b≠c):(gG H c i).get b=H.get b:=by
 unfold gG;split
 ·rfl
 ·rw[a7 (h:=h (by omega))]
@[simp] theorem pb{c i:Nat}:(gG H c i).next=H.next:=by unfold gG;split<;>rfl
theorem rv{c i b x:Nat}(h:0<i->c≠x) (a:b≠x:=by omega):du (p4 c i b) [x]=true:=by
 unfold p4;split
 ·exact fq a
 ·simp[du,h (by omega),a]
theorem w0{c i b x:Nat}(h:0<i->c≠x)(a:b≠x):du [x] (p4 c i b)=true:=by
 unfold p4;split
 ·exact fq (Ne.symm a)
 ·simp[du,Ne.symm (h (by omega)),Ne.symm a]
theorem wZ{c i y x:Nat}(h:0<i->c≠x)(a:y≠x):du [x] (y::p3 c i)=true:=by
 unfold p3;split
 ·exact fq (Ne.symm a)
 ·simp[du,Ne.symm (h (by omega)),Ne.symm a]
theorem tz{c i s x:Nat}(h:0<i->c<s)(a:x∈p3 c i):x<s:=by
 unfold p3 at a;split at a
 ·cases a
 ·simp at a;rw[a];exact h (by omega)
theorem aF.gG(u:aF pm n H aa){c i:Nat}{bN:List Value}{z:cz}(h:0<i->n<=c/\aa.get c=some (.cells bN z)):aF pm n H (C.gG aa c i):=by
 unfold C.gG;split
 ·exact u
 ·obtain⟨a,b⟩:=h (by omega);exact aF.put u a b (by simp) _
theorem tD{w cc c i ah b:Nat}{fx:List Nat}{bN xs:List Value}(h:0<i->H.get c=some (.cells bN (.n w))/\bN.length=i*w/\Perm.may ⟨ah,fx,some b⟩ c=true)(ez:i=0->bN=[])(d:xs.all c6=true)   (e:1<=w:=by decide)(aJ:i<1000000:=by omega)(g:cc<=200:=by decide):
 (eN w cc (aP c i) xs 1).runT ⟨ah,fx,some b⟩ H=some (aP b (i+1),(gG H c i).put b (.cells (bN++xs) (.n w)),p3 c i,p4 c i b):=by
 have a:(i+1)*cc<=17179869184:=aY (lX _ g) (by omega);by_cases f:i=0
 ·subst f;rw[ez rfl];unfold eN;simp at a;simp only[d,aP];simp[Perm.make,Perm.pick,a,e,gG,p3,p4];done
 ·obtain⟨b,c,g⟩:=h (by omega);have j:bx bN 0 (i*w)=some bN:=by rw[<-c];exact HN bN
  rw[cO (by omega),cO (by omega)];unfold eN;simp only[d];simp[Perm.make,Perm.pick,a,b,j,g,e,show ¬(i+1<=i) by omega,show i+1<=17179869184 by omega,gG,p3,p4,f];done
abbrev tyB:Nat:=T.TZ
abbrev tyX:Nat:=T.T2
section
variable{ak:Nat}{ai:Nat->Nat}{lc bo:Value}{ab:aI}
theorem Qq(_:ep X)(d:bs pm aj)(aH:pm.ah<=ak)(hn:ak<=aj.next)(ho:ab.ok)(_:ab.I=true){k:Nat}(hk:k<ab.a.length)(ez:fB ab.nM ak aj ai lc bo k 0 k ab.L){aE dr:Nat}{z:cz}{ee cn bP:Value}(_:ak<=dr)(ae:∀j,Real k 0 k j->ai j≠dr)
 (q:aj.get dr=some (.cells [ee,cn,bP] z)) (_:∀o,bk.cells [ee,cn,bP] z≠.cr o) (hv:jN aj ab.nM ab.L.v k ee cn bP) (aI:[ee,cn,bP].all c6=true) {L:bb} (l1:aK 1 L=some (.pointer (some ⟨aE,0,none⟩))) (l3:aK 3 L=some (.pointer (some ⟨ai 0,0,none⟩))) (l4:aK 4 L=some (.int .i64 (k:Int))) (l6:aK 6 L=some (.pointer (some ⟨dr,0,none⟩))) {Dw:Value} (aJ:aK 18 L=some Dw)
 (aL:aK 19 L=some (.int .i64 (ab.a.length:Int))) (aM:aK 20 L=some (.int .i64 (k:Int))) {Q:b5}
 (aO:∀aN aa l,aF pm ak aj aa->(∀b,(∀j,Real k 0 k j->b≠ai j)->b<aj.next->aa.get b=aj.get b)->l 0=ai 0->fB ab.nM ak aa l lc bo (k+1) 0 (k+1) ab.L->Sub [(20,.int .i64 (k:Int)),(19,.int .i64 (ab.a.length:Int)),(1,.pointer (some ⟨aE,0,none⟩)),(3,.pointer (some ⟨ai 0,0,none⟩)),(18,Dw)] aN->Q .normal aN aa):
 wp X pm (.code vI) L aj [] Q:=by
 have a_:=ho.c;obtain⟨s,hs⟩:∃s,s=aj.next:=⟨_,rfl⟩;have T:=d.none;have av:=d.J;rw[<-hs]at T av;have af:=ez.t;have m:Real k 0 k 0:=.inl rfl;have r:0<k->Real k 0 k 1:=λh=>.inr (.inl ⟨rfl,h⟩);have t:0<k->Real k 0 k 3:=λh=>.inr (.inr (.inr (.inl ⟨rfl,h⟩)));have la:=ez.lt d m;have J:=λh=>ez.lt d (r h);have D:=λh=>ez.lt d (t h);have a_:=d.lt q;have aQ:ai 0<s:=by omega
 have aR:dr<s:=by omega
 have ag:0<k->ai 0≠ai 1:=λh e=>absurd (ez.inj 0 1 m (r h) e) (by decide);have aS:0<k->ai 0≠ai 3:=λh e=>absurd (ez.inj 0 3 m (t h) e) (by decide);have aw:0<k->ai 1≠ai 3:=λh e=>absurd (ez.inj 1 3 (r h) (t h) e) (by decide);have a_:=ae 0 m;have a_:=λh=>ae 1 (r h);have a_:=λh=>ae 3 (t h);have al:∀o b,ak<=b->Perm.may ⟨pm.ah,pm.ok,o⟩ b=true:=λo b h=>eG (aY aH h);obtain⟨a,M,ax⟩:∃a,(0<k->aj.get (ai 1)=some (.cells a (.n 3))/\a.length=k*3/\∀x,x<k->∃U V c,a[x*3]? = some U/\a[x*3+1]? = some V/\a[x*3+2]? = some c/\jN aj ab.nM ab.L.v x U V c)/\(k=0->a=[]):=by
  by_cases e:k=0
  ·exact⟨[],λh=>by omega,λ_=>rfl⟩
  ·obtain⟨bN,N⟩:=ez.v (by omega);exact⟨bN,λ_=>N,λh=>absurd h e⟩
 obtain⟨f,O,ay⟩:∃f,(0<k->aj.get (ai 3)=some (.cells f (.n 1))/\f.length=k/\∀i,i<k->f[i]? = some (.int .i64 (ab.L.a i:Int)))/\(k=0->f=[]):=by
  by_cases e:k=0
  ·exact⟨[],λh=>by omega,λ_=>rfl⟩
  ·obtain⟨bN,N⟩:=ez.c (by omega);exact⟨bN,λ_=>N,λh=>absurd h e⟩
 simp;refine cy.of d.ah rfl ?_;obtain⟨p,u⟩:∃A,A=(aj.up 22).put (s+7) (.cells [ee,cn,bP] (.n 3)):=⟨_,rfl⟩;have az:K pm aj (aj.up 22):=(K.refl d).up 22;have W:K pm aj p:=by rw[u];exact aF.fill az (by omega) (by show aj.get _=none;exact T 7) (by show s+7<aj.next+22;omega) _
 have an:∀j,j≠7->p.get (s+j)=none:=λj n=>by rw[u,a7];exact T j
 have aT:p.get (s+7)=some (.cells [ee,cn,bP] (.n 3)):=by rw[u];exact b1
 have Y:=tD (H:=p) (w:=3) (cc:=24) (c:=ai 1) (i:=k) (ah:=pm.ah) (fx:=pm.ok) (b:=s+8) (bN:=a) (xs:=[ee,cn,bP]) (λh=>⟨W.some d (M h).1,(M h).2.1,al _ _ (ez.ge 1 (r h))⟩) ax aI;obtain⟨P,E⟩:∃A,A=(gG p (ai 1) k).put (s+8) (.cells (a++[ee,cn,bP]) (.n 3)):=⟨_,rfl⟩;rw[<-E]at Y;have ao:∀j,8<j->P.get (s+j)=none:=λj n=>by rw[E,a7,gV (λh=>by have:=J h;omega)];exact an j (by omega)
 have aA:∀b,b<s->(0<k->b≠ai 1)->P.get b=aj.get b:=λb g R=>by
  rw[E,a7,gV R,u,a7];rfl
 have aU:=(aA (ai 0) (by omega) ag).trans af;obtain⟨v,B⟩:∃A,A=P.put (s+14) (.cells [.int .i64 (k:Int)] (.n 1)):=⟨_,rfl⟩;have aq:∀j,14<j->v.get (s+j)=none:=λj n=>by rw[B,a7];exact ao j (by omega)
 have aV:v.get (s+14)=some (.cells [.int .i64 (k:Int)] (.n 1)):=by rw[B];exact b1
 have ar:∀b,b<s->(0<k->b≠ai 1)->v.get b=aj.get b:=λb g R=>by rw[B,a7];exact aA b g R
 have Z:=tD (H:=v) (w:=1) (cc:=8) (c:=ai 3) (i:=k) (ah:=pm.ah) (fx:=pm.ok) (b:=s+15) (bN:=f) (xs:=[.int .i64 (k:Int)]) (λh=>⟨(ar _ (by have:=D h;omega) λh=>(aw h).symm).trans (O h).1,by simpa using(O h).2.1,al _ _ (ez.ge 3 (t h))⟩) ay (by rfl);obtain⟨A4,F⟩:∃A,A=(gG v (ai 3) k).put (s+15) (.cells (f++[.int .i64 (k:Int)]) (.n 1)):=⟨_,rfl⟩;rw[<-F]at Z;have aB:∀j,15<j->A4.get (s+j)=none:=λj n=>by rw[F,a7,gV (λh=>by have:=D h;omega)];exact aq j (by omega)
 have aC:∀b,b<s->(0<k->b≠ai 1)->(0<k->b≠ai 3)->A4.get b=aj.get b:=λb g R ae=>by
  rw[F,a7,gV ae];exact ar b g R
 have aD:=(aC (ai 0) (by omega) ag aS).trans af;obtain⟨A5,C⟩:∃A,A=A4.put (ai 0) (.cells [lc,bo,aP (s+8) (k+1),aP (ai 2) 0,aP (ai 3) k,aP (ai 4) 0] (.t tyT)):=⟨_,rfl⟩;have aW:∀j,15<j->A5.get (s+j)=none:=λj n=>by rw[C,a7];exact aB j n
 have aG:A5.get (ai 0)=some (.cells [lc,bo,aP (s+8) (k+1),aP (ai 2) 0,aP (ai 3) k,aP (ai 4) 0] (.t tyT)):=by rw[C];exact b1
 obtain⟨S,G⟩:∃A,A=A5.put (ai 0) (.cells [lc,bo,aP (s+8) (k+1),aP (ai 2) 0,aP (s+15) (k+1),aP (ai 4) 0] (.t tyT)):=⟨_,rfl⟩;have aX:=λo=>al o _ (ez.ge 0 m);have aZ:∀b i,c6 (aP b i)=true:=λb i=>by unfold aP;split<;>rfl
 have a1:∀b i,(aP b i).cells=#[aP b i]:=λb i=>by unfold aP;split<;>rfl
 simp[b7,<-hs,T,av,l3,l4,l6,af,q,bx,bB,Perm.make,Perm.pick,<-u,an,aT,Y,ao,aU,<-B,aq,aV,Z,aB,aD,aX,aZ,a1,<-C,aW,aG,<-G,cj,cd, dM,fq (show s+7≠ai 0 by omega),fq (show s+14≠ai 0 by omega), fq (show s+14≠dr by omega),rv (c:=ai 1) (i:=k) (b:=s+8) (x:=ai 0) (λh=>(ag h).symm), w0 (c:=ai 1) (i:=k) (b:=s+8) (x:=s+14) (λh=>by have:=J h;omega) (by omega),wZ (c:=ai 1) (i:=k) (y:=s+7) (x:=s+14) (λh=>by have:=J h;omega) (by omega),aQ,aR];refine⟨⟨λx q=>.inl (.inl (.inl (tz (λh=>by have:=J h;omega) q))),λx q=>.inl (.inl (.inl (tz (λh=>by have:=D h;omega) q)))⟩,?_⟩;have A:aF pm ak aj p:=W.mono hn;have R:aF pm ak aj P:=by
  rw[E];exact aF.fill (aF.gG A λh=>⟨ez.ge 1 (r h),W.some d (M h).1⟩) (by omega) (by rw[gV (λh=>by have:=J h;omega)];exact an 8 (by decide)) (by rw[pb];have:=az.next;have:=W.next;show s+8<p.next;rw[u];show s+8<aj.next+22;omega) _
 have d:p.next=s+22:=by rw[u];show aj.next+22=_;omega
 have p:P.next=s+22:=by rw[E,Ct,pb];exact d
 have d:aF pm ak aj v:=by rw[B];exact aF.fill R (by omega) (ao 14 (by decide)) (by omega) _
 have u:v.next=s+22:=by rw[B];exact p
 have p:aF pm ak aj A4:=by
  rw[F];exact aF.fill (aF.gG d λh=>⟨ez.ge 3 (t h),(ar _ (by have:=D h;omega) λh=>(aw h).symm).trans (O h).1⟩) (by omega) (by rw[gV (λh=>by have:=D h;omega)];exact aq 15 (by decide)) (by rw[pb];omega) _
 have d:aF pm ak aj A5:=by rw[C];exact aF.put p (ez.ge 0 m) aD (by simp) _
 have u6:aF pm ak aj S:=by rw[G];exact aF.put d (ez.ge 0 m) aG (by simp) _
 obtain⟨l,au⟩:∃l:Nat->Nat,l=λj=>if j=1 then s+8 else if j=3 then s+15 else ai j:=⟨_,rfl⟩
 have aE:l 0=ai 0:=by rw[au];rfl
 have ad:l 1=s+8:=by rw[au];rfl
 have b3:l 3=s+15:=by rw[au];rfl
 have p:∀b,b<s->b≠ai 0->(0<k->b≠ai 1)->(0<k->b≠ai 3)->S.get b=aj.get b:=λb g d N u=>by
  rw[G,a7 (h:=d),C,a7 (h:=d)];exact aC b g N u
 have d:S.get (s+8)=some (.cells (a++[ee,cn,bP]) (.n 3)):=by
  rw[G,a7,C,a7,F,a7,gV (λh=>by have:=D h;omega),B,a7,E];exact b1
 have a6:S.get (s+15)=some (.cells (f++[.int .i64 (k:Int)]) (.n 1)):=by
  rw[G,a7,C,a7,F];exact b1
 have s:a.length=k*3:=by
  by_cases e:k=0
  ·rw[ax e,e];rfl
  ·exact(M (by omega)).2.1
 have a8:f.length=k:=by
  by_cases e:k=0
  ·rw[ay e,e];rfl
  ·exact(O (by omega)).2.1
 refine aO _ S l u6 (λb g _=>p b (by omega) (g 0 m) (λh=>g 1 (r h)) λh=>g 3 (t h)) aE ⟨?_,λ_=>?_,λh=>absurd h (Nat.lt_irrefl 0),λ_=>?_,λh=>absurd h (Nat.lt_irrefl 0),λi I=>absurd I (hz _),λi j I n e=>?_,λi I=>?_⟩ (by simp[l1,l3,aJ,aL,aM])
 ·rw[aE,ad,b3,G,b1];rfl
 ·rw[ad];refine⟨_,d,by simp[s];omega,λx q=>?_⟩;by_cases e:x=k
  ·subst e;refine⟨ee,cn,bP,?_,?_,?_,hv.k u6⟩
   ·rw[hR (by omega),show x*3-a.length=0 by omega];rfl
   ·rw[hR (by omega),show x*3+1-a.length=1 by omega];rfl
   ·rw[hR (by omega),show x*3+2-a.length=2 by omega];rfl
  ·obtain⟨U,V,c,Y,a,Z,b⟩:=(M (by omega)).2.2 x (by omega);exact⟨U,V,c,by rw[hi (by omega)];exact Y,by rw[hi (by omega)];exact a,by rw[hi (by omega)];exact Z,b.k u6⟩
 ·rw[b3];refine⟨_,a6,by simp[a8],λi I=>?_⟩;by_cases e:i=k
  ·subst e;rw[hR (by omega),show i-f.length=0 by omega];rfl
  ·rw[hi (by omega)];exact(O (by omega)).2.2 i (by omega)
 ·have b:∀j,Real (k+1) 0 (k+1) j->j=0∨j=1∨j=3:=λj n=>by unfold Real at n;omega
  rcases b i I with rfl | rfl | rfl<;>rcases b j n with rfl | rfl | rfl<;>simp only[aE,ad,b3]at e<;>omega
 ·have b:i=0∨i=1∨i=3:=by unfold Real at I;omega
  have:=ez.ge 0 m
  rcases b with rfl | rfl | rfl
  ·rw[aE];exact this
  ·rw[ad];omega
  ·rw[b3];omega
end
abbrev tyC:Nat:=T.T1
section
variable{ak:Nat}{ai:Nat->Nat}{lc bo:Value}{ab:aI}
theorem Ch{k:Nat}(a:k<ab.a.length):ab.nM.ah k=fc (ab.af k).low:=aT a
theorem Cj{k:Nat}(a:k<ab.a.length):ab.nM.up k=fc (ab.af k).up:=aT a
theorem Lt{k:Nat}(a:k<ab.a.length):ab.L.v k=pN (fc (ab.af k).low) (fc (ab.af k).up):=aT a
theorem Ny{c:dy}(h:h6 c=true):(c.low≠[]->isNum c.low=true)/\(c.up≠[]->isNum c.up=true):=by
 obtain⟨a,b⟩:=Nz c h;exact⟨λe=>a (by simpa using e),λe=>b (by simpa using e)⟩
theorem Qr(t:ep X)(e:bs pm aj)(an:pm.ah<=ak)(M:ak<=aj.next)(N:ab.ok)(O:ab.I=true){k:Nat}(f:k<ab.a.length)(ez:fB ab.nM ak aj ai lc bo k 0 k ab.L){aE:Nat}{y:Option Addr}{cap:Nat}(hc:gC aj (.slice y ab.a.length cap) ab.a){L:bb}(l1:aK 1 L=some (.pointer (some ⟨aE,0,none⟩)))(l3:aK 3 L=some (.pointer (some ⟨ai 0,0,none⟩)))
 (P:aK 18 L=some (.slice y ab.a.length cap)) (ao:aK 19 L=some (.int .i64 (ab.a.length:Int))) (R:aK 20 L=some (.int .i64 (k:Int))) {Q:b5}
 (ar:∀aN aa u,aF pm ak aj aa->u 0=ai 0->fB ab.nM ak aa u lc bo (k+1) 0 (k+1) ab.L->Sub [(20,.int .i64 (k:Int)),(19,.int .i64 (ab.a.length:Int)),(1,.pointer (some ⟨aE,0,none⟩)),(3,.pointer (some ⟨ai 0,0,none⟩)),(18,.slice y ab.a.length cap)] aN->Q .normal aN aa):
 wp X pm (.code (.seq (.bj [m 22 20,o 23 (.iW 5 (.t 18) (.t 20)),o 24 (.load true 5 (.t 23)),o 5 (.alloc tyC [(.string ⟨#[]⟩),(.string ⟨#[]⟩),(.string ⟨#[]⟩),(.string ⟨#[]⟩),(.bool false)]),m 4 22,⟨none,none,.store 5 (.t 5) (.t 24)⟩]) EC)) L aj [] Q:=by
 obtain⟨_,_,S,au⟩:=hc.at;cases S;obtain⟨b',av,_,_,_,rfl,e2,e3,e4,c,T,rfl⟩:=au k f;have y:=eB T;have B:=aI.zW T;have T:=xy O y;obtain⟨aw,ax⟩:=Ny T;obtain⟨_,_,_⟩:=N.cs c y;obtain⟨a,C⟩:∃a,a=(aj.new (.cells [.string ⟨#[]⟩,.string ⟨#[]⟩,.string ⟨#[]⟩,.string ⟨#[]⟩,.bool false] (.t tyC))).put aj.next (.cells [aA c.name,aA c.low,aA c.up,aA c.cost,.bool c.int] (.t tyC)):=⟨_,rfl⟩;have v:K pm aj a:=by rw[C];exact ic e _ _
 have U:a.get aj.next=some (.cells [aA c.name,aA c.low,aA c.up,aA c.cost,.bool c.int] (.t tyC)):=by rw[C];exact b1
 have d:=v.h;have y:=d.lt U;have y:pm.may aj.next=true:=e.may (bg _);simp[P,R,f,e2,e3,e4,e.pick,e.make,y,ptr,bB,dy.cells,<-C,-tb];refine cy.of d.ah rfl ?_;obtain⟨s,V⟩:∃s,s=a.next:=⟨_,rfl⟩;have w:=d.none;have y:=d.J;rw[<-V]at w y;simp[b7,<-V,w,y,U,Perm.make,Perm.pick,-tb];obtain⟨A,l⟩:∃A,A=(a.up 9).put (s+4) (.cells [.pointer none,.pointer none,.pointer none] (.t tyX)):=⟨_,rfl⟩;have D:K pm a A:=by rw[l];exact aF.fill ((K.refl d).up 9) (by omega) (w 4) (by show s+4<a.next+9;omega) _
 have ay:A.get (s+4)=some (.cells [.pointer none,.pointer none,.pointer none] (.t tyX)):=by rw[l];exact b1
 have y:∀j,j≠4->A.get (s+j)=none:=λj g=>by rw[l,a7];exact w j
 have w:A.next=s+9:=by rw[l];show a.next+9=_;omega
 have w:(a.up 9).put (s+4) (.cells [.pointer none,.pointer none,.pointer none] (.t tyX))=A:=l.symm;rw[w];have E:∀{l:ad},K pm A l->∀j,j≠4->j<9->l.get (s+j)=none:=λk j g _=>(k.get _ (by omega)).trans (y j g);have l:=y 5 (by decide);refine eM D.h (az:=[aA c.low]) l rfl (λaB F=>td t F aw) ?_;rintro _ _ G W;have l:=E G 6 (by decide) (by decide);simp[-tb];refine eM G.h (az:=[aA c.up]) l rfl (λaB F=>td t F ax) ?_;rintro _ Y c Z;have n:=K.trans G c;have y7:=E n 7 (by decide) (by decide);have y8:=E n 8 (by decide) (by decide);have aC:=W.up c;obtain⟨h,rfl⟩:=W.ptr;obtain⟨i,rfl⟩:=Z.ptr;have ae:=n.some D.h ay;have c:=λo=>eG (ok:=pm.ok) (o:=o) (b:=s+4) (aY d.ah (show a.next<=s+4 by omega));have l:aj.next<s:=by omega
 simp[y7,y8,ae,c,ptr,bB,cj,cd,l,fq (show s+4≠aj.next by omega),jT,dM,xY,-tb];obtain⟨p,H⟩:∃p,p=Y.put (s+4) (.cells [.pointer h,.pointer i,.pointer none] (.t tyX)):=⟨_,rfl⟩;have c:aF pm a.next Y p:=by rw[H];exact aF.put (aF.refl n.h |>.mono (bg _)) (by omega) ae (by simp) _
 have g5:=c.h;have af:p.get (s+4)=some (.cells [.pointer h,.pointer i,.pointer none] (.t tyX)):=by rw[H];exact b1
 have aD:K pm a p:=aF.trans (D.trans n) c;rw[<-H];have ag:=aC.up c;have ah:=Z.up c;simp[af,bx,bB,-EH,-vI];refine aq.of (az:=[.agg #[.pointer h,.pointer i,.pointer none]]) (S1 t g5 ag ah rfl) ?_;rintro _ H6 ⟨q,hr⟩;have g6:=q.h;have al:=q.some g5 af;obtain⟨I,rfl,_⟩:=id hr;have c:=K.trans aD q;have aG:=K.trans v c;have aH:=eG (ok:=pm.ok) (o:=pm.num) (b:=s+4) (aY d.ah (show a.next<=s+4 by omega));obtain⟨r,J⟩:∃r,r=H6.put (s+4) (.cells [.pointer h,.pointer i,.pointer (some ⟨I,0,none⟩)] (.t tyX)):=⟨_,rfl⟩;have a:aF pm aj.next H6 r:=by rw[J];exact aF.put (.refl g6) (by have:=v.next;omega) al (by simp) _
 have x:K pm aj r:=aF.trans aG a;have c:r.get (s+4)=some (.cells [.pointer h,.pointer i,.pointer (some ⟨I,0,none⟩)] (.t tyX)):=by rw[J];exact b1
 simp[al,aH,<-J,-vI];have d:=ez.k e x;have l:=λj g=>ez.lt e (j:=j) g;have e:=v.next;refine Qq t x.h an (aY M x.next) N O f d (aE:=aE) (dr:=s+4) (z:=.t tyX) (ee:=.pointer h) (cn:=.pointer i) (bP:=.pointer (some ⟨I,0,none⟩)) (Dw:=.slice (some ⟨b',av,none⟩) ab.a.length cap) (by omega) (λj g S=>by have:=l j g;omega) c (by simp) ⟨by rw[Ch f,B];exact(ag.up q).up a,by rw[Cj f,B];exact(ah.up q).up a,by rw[Lt f,B];exact hr.up a⟩ rfl (by simp[l1]) (by simp[l3]) (by simp) (by simp) (by simp[P]) (by simp[ao]) (by simp[R]) λaN aa u a _ c d e=>?_;exact ar aN aa u ((x.mono M).trans a) c d e
end
section
variable{ak:Nat}{ai:Nat->Nat}{lc bo:Value}{ab:aI}{gi:Option Addr}{gj:Nat}
def mw(ai:Nat->Nat)(s i cR:Nat)(j:Nat):Nat:=if j=1 then s+16 else if j=2 then s+27 else if j=4 then s+9 else if j=5+i then cR else ai j
theorem Ss(z:bs pm aj){i d s:Nat}(T:d=ab.a.length+i)(t:s=aj.next)(t:ak<=aj.next)(ez:fB ab.nM ak aj ai (.slice gi ab.a.length gj) bo d i ab.a.length ab.L){dr cR:Nat}{ee cn bP:Value}(U:ak<=cR)(n:∀j,Real d i ab.a.length j->ai j≠dr/\ai j≠cR)(V:jN aj ab.nM ab.L.v (ab.a.length+i) ee cn bP)(P:dI aj cR ab.a.length ab.a.length (ab.L.M i))
 {g o r:List Value} (Q:0<d->aj.get (ai 1)=some (.cells g (.n 3))/\g.length=d*3/\∀x,x<d->∃p q c,g[x*3]? = some p/\g[x*3+1]? = some q/\g[x*3+2]? = some c/\jN aj ab.nM ab.L.v x p q c) (W:d=0->g=[]) (R:0<i->aj.get (ai 2)=some (.cells o (.n 1))/\o.length=i/\∀j,j<i->o[j]? = some (.int .i64 (ab.L.rows j:Int))) (X:i=0->o=[])
 (S:0<i->aj.get (ai 4)=some (.cells r (.n 1))/\r.length=i/\∀j,j<i->r[j]? = some (.slice (some ⟨ai (5+j),0,none⟩) ab.a.length ab.a.length)) (Y:i=0->r=[]) {t:ad} (B:aF pm ak aj t)
 (Z:t.get (ai 0)=some (.cells [.slice gi ab.a.length gj,bo,aP (s+16) (d+1),aP (s+27) (i+1),aP (ai 3) ab.a.length,aP (s+9) (i+1)] (.t tyT))) (aa:t.get (s+9)=some (.cells (r++[.slice (some ⟨cR,0,none⟩) ab.a.length ab.a.length]) (.n 1))) (ae:t.get (s+16)=some (.cells (g++[ee,cn,bP]) (.n 3))) (af:t.get (s+27)=some (.cells (o++[.int .i64 ((ab.a.length:Int)+(i:Int))]) (.n 1)))
 (J:∀b,b<s->b≠ai 0->(0<i->b≠ai 4)->(0<d->b≠ai 1)->(0<i->b≠ai 2)->t.get b=aj.get b):mw ai s i cR 0=ai 0/\fB ab.nM ak t (mw ai s i cR) (.slice gi ab.a.length gj) bo (d+1) (i+1) ab.a.length ab.L:=by
 have u:Real d i ab.a.length 0:=.inl rfl;have K:0<d->Real d i ab.a.length 1:=λh=>.inr (.inl ⟨rfl,h⟩);have L:0<i->Real d i ab.a.length 2:=λh=>.inr (.inr (.inl ⟨.inl rfl,h⟩));have M:0<i->Real d i ab.a.length 4:=λh=>.inr (.inr (.inl ⟨.inr rfl,h⟩));have ag:ai 0<s:=by have:=ez.lt z u;omega
 have ah:=ez.ge 0 u;have k:0<ab.a.length->Real d i ab.a.length 3:=λh=>.inr (.inr (.inr (.inl ⟨rfl,h⟩)));have N:∀j,j<i->Real d i ab.a.length (5+j):=λj h=>.inr (.inr (.inr (.inr ⟨by omega,by omega⟩)));have al:cR<s:=by
  obtain⟨_,e,_⟩:=P;have:=z.lt e;omega
 have l:∀a b,Real d i ab.a.length a->Real d i ab.a.length b->a≠b->ai a≠ai b:=λa b v O t e=>t (ez.inj a b v O e);obtain⟨f,m⟩:∃f:Nat->Nat,f=mw ai s i cR:=⟨_,rfl⟩;rw[<-m];have C:f 0=ai 0:=by rw[m,mw];simp;intro h;omega
 have D:f 1=s+16:=by rw[m,mw];simp
 have E:f 2=s+27:=by rw[m,mw];simp
 have F:f 3=ai 3:=by rw[m,mw];simp;intro h;omega
 have G:f 4=s+9:=by rw[m,mw];simp
 have H:∀j,j<i->f (5+j)=ai (5+j):=λj w=>by
  rw[m,mw];simp only[show ¬5+j=1 by omega,show ¬5+j=2 by omega,show ¬5+j=4 by omega,show ¬5+j=5+i by omega,if_false]
 have I:f (5+i)=cR:=by
  rw[m,mw];simp only[show ¬5+i=1 by omega,show ¬5+i=2 by omega,show ¬5+i=4 by omega,if_false,if_true]
 have m:g.length=d*3:=by
  by_cases e:d=0
  ·rw[W e,e];rfl
  ·exact(Q (by omega)).2.1
 have an:o.length=i:=by
  by_cases e:i=0
  ·rw[X e,e];rfl
  ·exact(R (by omega)).2.1
 have ao:r.length=i:=by
  by_cases e:i=0
  ·rw[Y e,e];rfl
  ·exact(S (by omega)).2.1
 refine⟨C,?_,λ_=>?_,λ_=>?_,λA=>?_,λ_=>?_,λj w=>?_,λa b v O e=>?_,λa v=>?_⟩
 ·rw[C,D,E,F,G];exact Z
 ·rw[D];refine⟨_,ae,by simp[m];omega,λx _=>?_⟩;by_cases e:x=d
  ·subst e;refine⟨ee,cn,bP,?_,?_,?_,?_⟩
   ·rw[hR (by omega),show x*3-g.length=0 by omega];rfl
   ·rw[hR (by omega),show x*3+1-g.length=1 by omega];rfl
   ·rw[hR (by omega),show x*3+2-g.length=2 by omega];rfl
   ·rw[T];exact V.k B
  ·obtain⟨p,q,c,b,g,i,j⟩:=(Q (by omega)).2.2 x (by omega);exact⟨p,q,c,by rw[hi (by omega)];exact b,by rw[hi (by omega)];exact g,by rw[hi (by omega)];exact i,j.k B⟩
 ·rw[E];refine⟨_,af,by simp[an],λj w=>?_⟩;by_cases e:j=i
  ·subst e;rw[hR (by omega),show j-o.length=0 by omega];show some (Value.int .i64 ((ab.a.length:Int)+(j:Int)))=some (.int .i64 ((ab.a.length+j:Nat):Int));simp
  ·rw[hi (by omega)];exact(R (by omega)).2.2 j (by omega)
 ·rw[F];refine(ez.c A).ext λy e=>(J _ (by have:=ez.lt z (k A);omega) (l 3 0 (k A) u (by decide)) (λh=>l 3 4 (k A) (M h) (by decide)) (λh=>l 3 1 (k A) (K h) (by decide)) λh=>l 3 2 (k A) (L h) (by decide)).trans e
 ·rw[G];refine⟨_,aa,by simp[ao],λj w=>?_⟩;by_cases e:j=i
  ·subst e;rw[hR (by omega),show j-r.length=0 by omega,I];rfl
  ·rw[hi (by omega),H j (by omega)];exact(S (by omega)).2.2 j (by omega)
 ·by_cases e:j=i
  ·subst e;rw[I];exact P.ext B λy e=>(J cR al (n 0 u).2.symm (λh=>(n 4 (M h)).2.symm) (λh=>(n 1 (K h)).2.symm) λh=>(n 2 (L h)).2.symm).trans e
  ·have w:j<i:=by omega
   rw[H j w];have b:=N j w;exact(ez.row j w).ext B λy e=>(J _ (by have:=ez.lt z b;omega) (l _ _ b u (by omega)) (λh=>l _ _ b (M h) (by omega)) (λh=>l _ _ b (K h) (by omega)) λh=>l _ _ b (L h) (by omega)).trans e
 ·have c:∀a,Real (d+1) (i+1) ab.a.length a->(a=1/\f a=s+16)∨(a=2/\f a=s+27)∨(a=4/\f a=s+9)∨(a=5+i/\f a=cR)∨(Real d i ab.a.length a/\f a=ai a/\ai a<s/\ai a≠cR/\a≠1/\a≠2/\a≠4/\a≠5+i):=by
   intro a v
   rcases v with rfl | ⟨rfl,_⟩ | ⟨rfl | rfl,_⟩ | ⟨rfl,h⟩ | ⟨_,_⟩
   ·exact .inr (.inr (.inr (.inr ⟨u,C,ag,(n 0 u).2,by omega,by omega,by omega,by omega⟩)))
   ·exact .inl ⟨rfl,D⟩
   ·exact .inr (.inl ⟨rfl,E⟩)
   ·exact .inr (.inr (.inl ⟨rfl,G⟩))
   ·exact .inr (.inr (.inr (.inr ⟨k h,F,by have:=ez.lt z (k h);omega,(n 3 (k h)).2,by omega,by omega,by omega,by omega⟩)))
   ·obtain⟨j,rfl⟩:∃j,a=5+j:=⟨a-5,by omega⟩;by_cases e:j=i
    ·subst e;exact .inr (.inr (.inr (.inl ⟨rfl,I⟩)))
    ·have b:=N j (by omega);exact .inr (.inr (.inr (.inr ⟨b,H j (by omega),by have:=ez.lt z b;omega,(n _ b).2,by omega,by omega,by omega,by omega⟩)))
  rcases c a v with⟨rfl,x⟩ | ⟨rfl,x⟩ | ⟨rfl,x⟩ | ⟨rfl,x⟩ | ⟨TV,x,Vp,Vq,_⟩<;>rcases c b O with⟨rfl,y⟩ | ⟨rfl,y⟩ | ⟨rfl,y⟩ | ⟨rfl,y⟩ | ⟨T7,y,Vr,Vs,_⟩<;>first | rfl | (rw[x,y]at e;first | omega | exact ez.inj a b TV T7 e)
 ·rcases v with rfl | ⟨rfl,_⟩ | ⟨rfl | rfl,_⟩ | ⟨rfl,h⟩ | ⟨_,_⟩
  ·rw[C];exact ah
  ·rw[D];omega
  ·rw[E];omega
  ·rw[G];omega
  ·rw[F];exact ez.ge 3 (k h)
  ·obtain⟨j,rfl⟩:∃j,a=5+j:=⟨a-5,by omega⟩;by_cases e:j=i
   ·subst e;rw[I];exact U
   ·rw[H j (by omega)];exact ez.ge _ (N j (by omega))
theorem Qt(d:bs pm aj)(bg:pm.ah<=ak)(hn:ak<=aj.next)(ho:ab.ok){i:Nat}(aJ:i<ab.rows.length)(ez:fB ab.nM ak aj ai (.slice gi ab.a.length gj) bo (ab.a.length+i) i ab.a.length ab.L){aE dr cR:Nat}{z rZ:cz}{ee cn bP:Value}(aO:ak<=dr)(bh:ak<=cR)(_:dr≠cR)(ad:∀j,Real (ab.a.length+i) i ab.a.length j->ai j≠dr/\ai j≠cR)
 (o:aj.get dr=some (.cells [ee,cn,bP] z)) (bj:aj.get aE=some (.cells [.slice gi ab.a.length gj,bo] rZ)) (aO:aE<ak) (hv:jN aj ab.nM ab.L.v (ab.a.length+i) ee cn bP) (bk:[ee,cn,bP].all c6=true) (bl:dI aj cR ab.a.length ab.a.length (ab.L.M i)) {L:bb} (l1:aK 1 L=some (.pointer (some ⟨aE,0,none⟩))) (l3:aK 3 L=some (.pointer (some ⟨ai 0,0,none⟩))) (l7:aK 7 L=some (.int .i64 (i:Int)))
 (l9:aK 9 L=some (.pointer (some ⟨dr,0,none⟩))) (aL:aK 10 L=some (.slice (some ⟨cR,0,none⟩) ab.a.length ab.a.length)) {k':Value} (bm:aK 57 L=some k') (bn:aK 58 L=some (.int .i64 (ab.rows.length:Int))) (bp:aK 59 L=some (.int .i64 (i:Int))) {Q:b5}
 (aM:∀aN aa aO,aF pm ak aj aa->aO 0=ai 0->fB ab.nM ak aa aO (.slice gi ab.a.length gj) bo (ab.a.length+(i+1)) (i+1) ab.a.length ab.L->Sub [(59,.int .i64 (i:Int)),(58,.int .i64 (ab.rows.length:Int)),(1,.pointer (some ⟨aE,0,none⟩)),(3,.pointer (some ⟨ai 0,0,none⟩)),(57,k')] aN->Q .normal aN aa):
 wp X pm (.code ta) L aj [] Q:=by
 have aO:=ho.c;have aO:=ho.r;obtain⟨a,aQ⟩:∃a,a=ab.a.length+i:=⟨_,rfl⟩;rw[<-aQ]at ez ad;obtain⟨s,hs⟩:∃s,s=aj.next:=⟨_,rfl⟩;have ae:=d.none;have aR:=d.J;rw[<-hs]at ae aR;have af:=ez.t;have R:Real a i ab.a.length 0:=.inl rfl;have S:0<a->Real a i ab.a.length 1:=λh=>.inr (.inl ⟨rfl,h⟩);have T:0<i->Real a i ab.a.length 2:=λh=>.inr (.inr (.inl ⟨.inl rfl,h⟩));have t:0<i->Real a i ab.a.length 4:=λh=>.inr (.inr (.inl ⟨.inr rfl,h⟩));have ag:ai 0<s:=by have:=ez.lt d R;omega
 have u:=λh=>ez.lt d (S h);have I:=λh=>ez.lt d (T h);have v:=λh=>ez.lt d (t h);have aS:dr<s:=by have:=d.lt o;omega
 have aT:aE<s:=by omega
 have ay:0<a->ai 0≠ai 1:=λh e=>absurd (ez.inj 0 1 R (S h) e) (by decide);have bq:0<i->ai 0≠ai 2:=λh e=>absurd (ez.inj 0 2 R (T h) e) (by decide);have al:0<i->ai 0≠ai 4:=λh e=>absurd (ez.inj 0 4 R (t h) e) (by decide);have br:0<a->0<i->ai 1≠ai 4:=λh B e=>absurd (ez.inj 1 4 (S h) (t B) e) (by decide);have bs:0<a->0<i->ai 1≠ai 2:=λh B e=>absurd (ez.inj 1 2 (S h) (T B) e) (by decide);have bt:0<i->ai 2≠ai 4:=λh e=>absurd (ez.inj 2 4 (T h) (t h) e) (by decide);have an:=ez.ge 0 R;have ao:=λh=>ez.ge 1 (S h);have aU:=λh=>ez.ge 2 (T h);have aq:=λh=>ez.ge 4 (t h);have ar:∀au b,ak<=b->Perm.may ⟨pm.ah,pm.ok,au⟩ b=true:=λau b h=>eG (aY bg h);obtain⟨f,az,aV⟩:∃f,(0<a->aj.get (ai 1)=some (.cells f (.n 3))/\f.length=a*3/\∀x,x<a->∃R S c,f[x*3]? = some R/\f[x*3+1]? = some S/\f[x*3+2]? = some c/\jN aj ab.nM ab.L.v x R S c)/\(a=0->f=[]):=by
  by_cases e:a=0
  ·exact⟨[],λh=>by omega,λ_=>rfl⟩
  ·obtain⟨bN,l⟩:=ez.v (by omega);exact⟨bN,λ_=>l,λh=>absurd h e⟩
 obtain⟨m,aA,aW⟩:∃m,(0<i->aj.get (ai 2)=some (.cells m (.n 1))/\m.length=i/\∀j,j<i->m[j]? = some (.int .i64 (ab.L.rows j:Int)))/\(i=0->m=[]):=by
  by_cases e:i=0
  ·exact⟨[],λh=>by omega,λ_=>rfl⟩
  ·obtain⟨bN,l⟩:=ez.r (by omega);exact⟨bN,λ_=>l,λh=>absurd h e⟩
 obtain⟨p,av,aX⟩:∃p,(0<i->aj.get (ai 4)=some (.cells p (.n 1))/\p.length=i/\∀j,j<i->p[j]? = some (.slice (some ⟨ai (5+j),0,none⟩) ab.a.length ab.a.length))/\(i=0->p=[]):=by
  by_cases e:i=0
  ·exact⟨[],λh=>by omega,λ_=>rfl⟩
  ·obtain⟨bN,l⟩:=ez.m (by omega);exact⟨bN,λ_=>l,λh=>absurd h e⟩
 obtain⟨g,aw⟩:∃g:Value,g=.slice (some ⟨cR,0,none⟩) ab.a.length ab.a.length:=⟨_,rfl⟩;have bu:[g].all c6=true:=by rw[aw];rfl
 simp;refine cy.of d.ah rfl ?_;have bw:K pm aj (aj.up 37):=(K.refl d).up 37;obtain⟨J,M⟩:∃A,A=(aj.up 37).put (s+8) (.cells [g] (.n 1)):=⟨_,rfl⟩;have aB:K pm aj J:=by rw[M];exact aF.fill bw (by omega) (by show aj.get _=none;exact ae 8) (by show s+8<aj.next+37;omega) _
 have bz:J.next=s+37:=by rw[M];show aj.next+37=_;omega
 have aC:∀j,j≠8->J.get (s+j)=none:=λj k=>by rw[M,a7];exact ae j
 have bA:J.get (s+8)=some (.cells [g] (.n 1)):=by rw[M];exact b1
 have e1:=tD (H:=J) (w:=1) (cc:=24) (c:=ai 4) (i:=i) (ah:=pm.ah) (fx:=pm.ok) (b:=s+9) (bN:=p) (xs:=[g]) (λh=>⟨aB.some d (av h).1,by simpa using(av h).2.1,ar _ _ (aq h)⟩) aX bu;obtain⟨U,N⟩:∃A,A=(gG J (ai 4) i).put (s+9) (.cells (p++[g]) (.n 1)):=⟨_,rfl⟩;rw[<-N]at e1;have u2:aF pm ak aj U:=by
  rw[N];exact aF.fill (aF.gG (aB.mono hn) λh=>⟨aq h,aB.some d (av h).1⟩) (by omega) (by rw[gV (λh=>by have:=v h;omega)];exact aC 9 (by decide)) (by rw[pb];omega) _
 have bC:U.next=s+37:=by rw[N,Ct,pb];exact bz
 have aD:∀j,9<j->U.get (s+j)=none:=λj k=>by rw[N,a7,gV (λh=>by have:=v h;omega)];exact aC j (by omega)
 have aG:∀b,b<s->(0<i->b≠ai 4)->U.get b=aj.get b:=λb q V=>by
  rw[N,a7,gV V,M,a7];rfl
 have bD:=(aG (ai 0) ag al).trans af;have bE:=(aG dr aS λh=>((ad 4 (t h)).1).symm).trans o;obtain⟨r,C⟩:∃A,A=U.put (s+15) (.cells [ee,cn,bP] (.n 3)):=⟨_,rfl⟩;have u3:aF pm ak aj r:=by rw[C];exact aF.fill u2 (by omega) (aD 15 (by decide)) (by omega) _
 have bF:r.next=s+37:=by rw[C];exact bC
 have aH:∀j,15<j->r.get (s+j)=none:=λj k=>by rw[C,a7];exact aD j (by omega)
 have bG:r.get (s+15)=some (.cells [ee,cn,bP] (.n 3)):=by rw[C];exact b1
 have aZ:∀b,b<s->(0<i->b≠ai 4)->r.get b=aj.get b:=λb q V=>by rw[C,a7];exact aG b q V
 have a1:0<a->r.get (ai 1)=some (.cells f (.n 3)):=λh=>(aZ _ (by have:=u h;omega) λB=>br h B).trans (az h).1;have e3:=tD (H:=r) (w:=3) (cc:=24) (c:=ai 1) (i:=a) (ah:=pm.ah) (fx:=pm.ok) (b:=s+16) (bN:=f) (xs:=[ee,cn,bP]) (λh=>⟨a1 h,(az h).2.1,ar _ _ (ao h)⟩) aV bk;obtain⟨W,D⟩:∃A,A=(gG r (ai 1) a).put (s+16) (.cells (f++[ee,cn,bP]) (.n 3)):=⟨_,rfl⟩;rw[<-D]at e3;have u4:aF pm ak aj W:=by
  rw[D];exact aF.fill (aF.gG u3 λh=>⟨ao h,a1 h⟩) (by omega) (by rw[gV (λh=>by have:=u h;omega)];exact aH 16 (by decide)) (by rw[pb];omega) _
 have bH:W.next=s+37:=by rw[D,Ct,pb];exact bF
 have aI:∀j,16<j->W.get (s+j)=none:=λj k=>by rw[D,a7,gV (λh=>by have:=u h;omega)];exact aH j (by omega)
 have ax:∀b,b<s->(0<i->b≠ai 4)->(0<a->b≠ai 1)->W.get b=aj.get b:=λb q e V=>by
  rw[D,a7,gV V];exact aZ b q e
 have bI:=(ax (ai 0) ag al ay).trans af;have bJ:=(ax aE aT (λh=>by have:=aq h;omega) λh=>by have:=ao h;omega).trans bj;obtain⟨E,n⟩:∃A,A=W.put (s+26) (.cells [.int .i64 ((ab.a.length:Int)+(i:Int))] (.n 1)):=⟨_,rfl⟩;have u5:aF pm ak aj E:=by rw[n];exact aF.fill u4 (by omega) (aI 26 (by decide)) (by omega) _
 have e:E.next=s+37:=by rw[n];exact bH
 have aJ:∀j,26<j->E.get (s+j)=none:=λj k=>by rw[n,a7];exact aI j (by omega)
 have bK:E.get (s+26)=some (.cells [.int .i64 ((ab.a.length:Int)+(i:Int))] (.n 1)):=by rw[n];exact b1
 have a6:0<i->E.get (ai 2)=some (.cells m (.n 1)):=λh=>by
  have:=I h;rw[n,a7];exact(ax _ (by omega) bt λB=>(bs B h).symm).trans (aA h).1
 have e5:=tD (H:=E) (w:=1) (cc:=8) (c:=ai 2) (i:=i) (ah:=pm.ah) (fx:=pm.ok) (b:=s+27) (bN:=m) (xs:=[.int .i64 ((ab.a.length:Int)+(i:Int))]) (λh=>⟨a6 h,by simpa using(aA h).2.1,ar _ _ (aU h)⟩) aW rfl;obtain⟨Y,F⟩:∃A,A=(gG E (ai 2) i).put (s+27) (.cells (m++[.int .i64 ((ab.a.length:Int)+(i:Int))]) (.n 1)):=⟨_,rfl⟩;rw[<-F]at e5;have u6:aF pm ak aj Y:=by
  rw[F];exact aF.fill (aF.gG u5 λh=>⟨aU h,a6 h⟩) (by omega) (by rw[gV (λh=>by have:=I h;omega)];exact aJ 27 (by decide)) (by rw[pb];omega) _
 have a8:∀j,27<j->Y.get (s+j)=none:=λj k=>by rw[F,a7,gV (λh=>by have:=I h;omega)];exact aJ j (by omega)
 have a_:∀b,b<s->(0<i->b≠ai 4)->(0<a->b≠ai 1)->(0<i->b≠ai 2)->Y.get b=aj.get b:=λb q h4 l h2=>by
  rw[F,a7,gV h2,n,a7];exact ax b q h4 l
 have ba:=(a_ (ai 0) ag al ay bq).trans af;obtain⟨e,_⟩:∃e,e=Value.slice gi ab.a.length gj:=⟨_,rfl⟩;obtain⟨A7,O⟩:∃A,A=Y.put (ai 0) (.cells [.slice gi ab.a.length gj,bo,aP (ai 1) a,aP (ai 2) i,aP (ai 3) ab.a.length,aP (s+9) (i+1)] (.t tyT)):=⟨_,rfl⟩;have u7:aF pm ak aj A7:=by rw[O];exact aF.put u6 an ba (by simp) _
 have bc:∀j,27<j->A7.get (s+j)=none:=λj k=>by rw[O,a7];exact a8 j k
 have bd:A7.get (ai 0)=some (.cells [.slice gi ab.a.length gj,bo,aP (ai 1) a,aP (ai 2) i,aP (ai 3) ab.a.length,aP (s+9) (i+1)] (.t tyT)):=by rw[O];exact b1
 obtain⟨A8,P⟩:∃A,A=A7.put (ai 0) (.cells [.slice gi ab.a.length gj,bo,aP (s+16) (a+1),aP (ai 2) i,aP (ai 3) ab.a.length,aP (s+9) (i+1)] (.t tyT)):=⟨_,rfl⟩;have u8:aF pm ak aj A8:=by rw[P];exact aF.put u7 an bd (by simp) _
 have bL:∀j,27<j->A8.get (s+j)=none:=λj k=>by rw[P,a7];exact bc j k
 have bf:A8.get (ai 0)=some (.cells [.slice gi ab.a.length gj,bo,aP (s+16) (a+1),aP (ai 2) i,aP (ai 3) ab.a.length,aP (s+9) (i+1)] (.t tyT)):=by rw[P];exact b1
 obtain⟨G,Z⟩:∃A,A=A8.put (ai 0) (.cells [.slice gi ab.a.length gj,bo,aP (s+16) (a+1),aP (s+27) (i+1),aP (ai 3) ab.a.length,aP (s+9) (i+1)] (.t tyT)):=⟨_,rfl⟩;have u9:aF pm ak aj G:=by rw[Z];exact aF.put u8 an bf (by simp) _
 have bM:=λau=>ar au _ an;have bO:∀b i,c6 (aP b i)=true:=λb i=>by unfold aP;split<;>rfl
 have bQ:∀b i,(aP b i).cells=#[aP b i]:=λb i=>by unfold aP;split<;>rfl
 have e:wr .i64 ((ab.a.length:Int)+(i:Int))=(ab.a.length:Int)+(i:Int):=b8;have r:g.cells=#[g]:=by rw[aw];rfl
 rw[<-aw]at aL
 simp[b7,<-hs,ae,aR,l1,l3,l7,l9,aL,af, bx,bB,Perm.make,Perm.pick,r,fill,<-M,aC,bA,e1,aD,bD,bE,<-C,aH,bG,e3,aI,bI,bJ,e,<-n,aJ,bK,e5,a8,ba,bM,bO,bQ,<-O,bc,bd,<-P,bL,bf,<-Z,cj,cd, dM,ag,aS,aT,
  fq (show s+8≠ai 0 by omega),fq (show s+8≠dr by omega),fq (show s+8≠aE by omega),fq (show s+15≠ai 0 by omega),fq (show s+15≠aE by omega),fq (show s+26≠ai 0 by omega),fq (show s+26≠dr by omega),
  rv (c:=ai 4) (i:=i) (b:=s+9) (x:=ai 0) (λh=>(al h).symm),rv (c:=ai 4) (i:=i) (b:=s+9) (x:=dr) (λh=>(ad 4 (t h)).1),rv (c:=ai 4) (i:=i) (b:=s+9) (x:=aE) (λh=>by have:=aq h;omega),
  rv (c:=ai 1) (i:=a) (b:=s+16) (x:=ai 0) (λh=>(ay h).symm),rv (c:=ai 1) (i:=a) (b:=s+16) (x:=aE) (λh=>by have:=ao h;omega),
  w0 (c:=ai 4) (i:=i) (b:=s+9) (x:=s+15) (λh=>by have:=v h;omega) (by omega),wZ (c:=ai 4) (i:=i) (y:=s+8) (x:=s+15) (λh=>by have:=v h;omega) (by omega),
  w0 (c:=ai 4) (i:=i) (b:=s+9) (x:=s+26) (λh=>by have:=v h;omega) (by omega),wZ (c:=ai 4) (i:=i) (y:=s+8) (x:=s+26) (λh=>by have:=v h;omega) (by omega),
  w0 (c:=ai 1) (i:=a) (b:=s+16) (x:=s+26) (λh=>by have:=u h;omega) (by omega),wZ (c:=ai 1) (i:=a) (y:=s+15) (x:=s+26) (λh=>by have:=u h;omega) (by omega)]
 refine⟨⟨λx o=>.inl (.inl (.inl (tz (λh=>by have:=v h;omega) o))),λx o=>.inl (.inl (.inl (tz (λh=>by have:=u h;omega) o))),λx o=>.inl (.inl (.inl (tz (λh=>by have:=I h;omega) o)))⟩,?_⟩;have o:∀b,b<s->b≠ai 0->(0<i->b≠ai 4)->(0<a->b≠ai 1)->(0<i->b≠ai 2)->G.get b=aj.get b:=λb q e h4 l h2=>by
  rw[Z,a7 (h:=e),P,a7 (h:=e),O,a7 (h:=e)];exact a_ b q h4 l h2
 have e:∀j,s<=j->G.get j=Y.get j:=λj k=>by rw[Z,a7,P,a7,O,a7]
 have k:G.get (s+9)=some (.cells (p++[g]) (.n 1)):=by
  rw[e _ (by omega),F,a7,gV (λh=>by have:=I h;omega),n,a7,D,a7,gV (λh=>by have:=u h;omega),C,a7,N];exact b1
 have g:G.get (s+16)=some (.cells (f++[ee,cn,bP]) (.n 3)):=by
  rw[e _ (by omega),F,a7,gV (λh=>by have:=I h;omega),n,a7,D];exact b1
 have f:G.get (s+27)=some (.cells (m++[.int .i64 ((ab.a.length:Int)+(i:Int))]) (.n 1)):=by
  rw[e _ (by omega),F];exact b1
 have e:ab.a.length+(i+1)=a+1:=by omega
 rw[e]at aM;rw[aw]at k;obtain⟨a,e⟩:=Ss d aQ hs hn ez bh ad hv bl az aV aA aW av aX u9 (by rw[Z,b1]) k g f o;exact aM _ G _ u9 a e (by simp[l1,l3,bm,bn,bp])
end
abbrev tyY:Nat:=T.T4
abbrev tyK:Nat:=T.T5
section
variable{ak:Nat}{ai:Nat->Nat}{lc bo:Value}{ab:aI}{gi:Option Addr}{gj:Nat}
theorem LG(b:ab.ok){j:Nat}(c:j<ab.a.length):aS (ab.v0 j) 10000:=by
 obtain⟨d,e,_⟩:=b.cs (ab.af j) (eB (aI.jv c));unfold aI.v0 pN fc;split
 ·rename_i _ a;split at a
  ·cases a
  ·cases a;exact jg d
 ·split
  ·exact pR (by decide)
  ·exact jg e
theorem Qp(M:ep X)(A:bs pm aj)(s:K pm aj H)(B:ab.ok)(hm:ab.I=true){i C:Nat}(_:i<ab.rows.length)(ad:ab.a.length<=C)(ez:fB ab.nM ak aj ai lc bo C i ab.a.length ab.L){r:bQ}{bP:Value}(hr:ab.rows[i]? = some r)(ay:gB aj bP r.j){ad dr cR:Nat}{z2:cz}{ee cn u:Value}(ae:aj.next<=dr)(af:aj.next<=cR)(ag:dr≠cR)
 (aB:H.get ad=some (.cells (r.cells bP) z2)) (hx:H.get dr=some (.cells [ee,cn,u] (.t tyY))) (hu:b9 H u 0) (aD:dI H cR ab.a.length ab.a.length λ_=>0) {L:bb} {v1:Value} (l1:aK 1 L=some v1) (l3:aK 3 L=some (.pointer (some ⟨ai 0,0,none⟩))) (l7:aK 7 L=some (.int .i64 (i:Int)))
 (l8:aK 8 L=some (.pointer (some ⟨ad,0,none⟩))) (l9:aK 9 L=some (.pointer (some ⟨dr,0,none⟩))) (aE:aK 10 L=some (.slice (some ⟨cR,0,none⟩) ab.a.length ab.a.length)) {k':Value} (aG:aK 57 L=some k') (aH:aK 58 L=some (.int .i64 (ab.rows.length:Int))) (aI:aK 59 L=some (.int .i64 (i:Int))) {Q:b5}
 (aJ:∀aN aa u',K pm aj aa->aF pm aj.next H aa->aa.get dr=some (.cells [ee,cn,u'] (.t tyY))->b9 aa u' (hI r.j ab.v0)->dI aa cR ab.a.length ab.a.length (hV r.j)->Sub [(1,v1),(3,.pointer (some ⟨ai 0,0,none⟩)),(7,.int .i64 (i:Int)),(9,.pointer (some ⟨dr,0,none⟩)),(10,.slice (some ⟨cR,0,none⟩) ab.a.length ab.a.length),(57,k'),(58,.int .i64 (ab.rows.length:Int)),(59,.int .i64 (i:Int))] aN->wp X pm (.code ta) aN aa [] Q):
 wp X pm (.code vH) L H [] Q:=by
 have aL:=B.c;have ad:=eB hr;have hB:=BK hm ad;have aM:=B.rs r ad;obtain⟨N,_,_,_⟩:=Kx hB aM aL;have aO:=N.len;obtain⟨aP,aQ,rfl,aR⟩:=ay.at;simp[l8,aB,bQ.cells,-Ev,-ta]
 refine eE (σ:=Value) r.j.length (λp _=>[(1,v1),(3,.pointer (some ⟨ai 0,0,none⟩)),(7,.int .i64 (i:Int)),(9,.pointer (some ⟨dr,0,none⟩)),(10,.slice (some ⟨cR,0,none⟩) ab.a.length ab.a.length),(57,k'),(58,.int .i64 (ab.rows.length:Int)),(59,.int .i64 (i:Int)),(95,.slice aP r.j.length aQ)])
  (λp u aa=>K pm aj aa/\aF pm aj.next H aa/\aa.get dr=some (.cells [ee,cn,u] (.t tyY))/\b9 aa u (hI (r.j.take p) ab.v0)/\dI aa cR ab.a.length ab.a.length (hV (r.j.take p))) u (by simp[l1,l3,l7,l9,aE,aG,aH,aI]) ⟨s,aF.refl s.h,hx,by simpa [hI]using hu,by simpa [hV]using aD⟩ ?_ ?_
 ·rintro p u i hp ⟨D,uu,aa,aK,ah⟩;obtain⟨_,_,_,_,_,rfl,e2,e3,e4,c,e5,rfl⟩:=aR p hp;obtain⟨o,O,P,h4⟩:=N.all c (eB e5);obtain⟨j,hj⟩:∃j:Nat,c.af=(j:Int):=⟨c.af.toNat,by omega⟩;have q:j<ab.a.length:=by omega
  have ak:c.af.toNat=j:=by omega
  have f:=D.h;have aN:=D.some A e2;obtain⟨l,Q⟩:∃l,l=(i.new (.cells [.int .i64 0,.string ⟨#[]⟩] (.t tyK))).put i.next (.cells [.int .i64 c.af,aA c.v] (.t tyK)):=⟨_,rfl⟩;have R:K pm i l:=by rw[Q];exact ic f _ _
  have S:l.get i.next=some (.cells [.int .i64 c.af,aA c.v] (.t tyK)):=by rw[Q];exact b1
  have d:=R.h;have aU:=d.lt S;have aV:∀s,Perm.may ⟨pm.ah,pm.ok,s⟩ cR=true:=λs=>eG (aY A.ah af);have aW:∀s,Perm.may ⟨pm.ah,pm.ok,s⟩ dr=true:=λs=>eG (aY A.ah ae);have al:=o;unfold dq.ok at al;have aX:c.v≠[]:=by rintro v;rw[v]at O;simp[isNum,HP]at O
  obtain⟨T,d1,d2,d3⟩:=ah.k f R;have aZ:=d.lt d1;simp[hp,aN,e3,e4,f.pick,f.make,f.may (bg _),ptr,bB,dq.cells,<-Q,-vJ];refine cy.of d.ah rfl ?_;have kU:K pm l (l.up 8):=(K.refl d).up 8;simp[b7,d.none,d.J,S,hj,-vJ];refine eM kU.h (az:=[aA c.v]) (by simp[d.none]) rfl (λan w=>td M w λ_=>O) ?_;rintro _ H3 l E;rw[fc,aC aX]at E;have x3:=l.res d;have x:=kU.trans l;have g3:=x.h;have ao:=x.some d d1;obtain⟨F,rfl,_⟩:=id E;have aq:j<T.length:=by omega
  simp[x3,ao,q,aV,aq,cj,cd,aU,aZ,jT,dM,xY,-vJ];have s:=λy (G:y<ab.a.length)=>(d3 y G).imp λ_ l=>(⟨l.1,l.2.up x⟩:_/\_);obtain⟨n,U⟩:=dI.put (m:=aj.next) g3 af ao d2 s q E (dd:=ab.a.length) (λy G=>.inr G);obtain⟨e,H⟩:∃e,e=H3.put cR (.cells (T.set j (.pointer (some ⟨F,0,none⟩))) (.n 1)):=⟨_,rfl⟩;rw[<-H]at n U|-;have a:=n.h;have I:=R.trans x;have V:K pm aj e:=aF.trans (K.trans D I) n;have J:e.get dr=some (.cells [ee,cn,u] (.t tyY)):=by rw[H,a7 (h:=ag)];exact I.some f aa
  have l:=f.lt aa;have ar:e.get i.next=some (.cells [.int .i64 c.af,aA c.v] (.t tyK)):=by
   have b:cR<i.next:=by
    obtain⟨_,v,_⟩:=ah;exact f.lt v
   rw[H,a7];exact x.some d S
  have a1:b9 e u (hI (r.j.take p) ab.v0):=(aK.up I).up n;have d:=ez.k A V;have W:=d.t;rw[cO (b:=ai 1) (show 0<C by omega)]at W;obtain⟨az,au,_,f⟩:=d.v (by omega);obtain⟨_,_,qv,_,_,w3,d⟩:=f j (by omega);have f:ab.L.v j=ab.v0 j:=aT q;have X:=d.v;rw[f]at X;have f4:=E.up n;obtain⟨d,Y,_,_⟩:=id U;have a6:d[j]? = some (.pointer (some ⟨F,0,none⟩)):=by
   have:e.get cR=some (.cells (T.set j (.pointer (some ⟨F,0,none⟩))) (.n 1)):=by rw[H];exact b1
   rw[Y]at this;cases this;rw[uX aq]
  have y0:=a.lt J;have y1:=a.lt ar;have y2:=a.lt Y;have y3:=a.lt W;have y4:=a.lt au;simp[-EA];refine cy.of a.ah rfl ?_;have g:K pm e (e.up 20):=(K.refl a).up 20;simp[b7,a.none,a.J,J,ar,hj,Y,a6,q,W,au,w3,show j<C by omega];have dj:=λm=>nO (f4.up g) (X.up g) (g.some a J) m;have av:=jg (k:=10000) al;have aw:=LG B q;refine eM g.h (az:=[.pointer (some ⟨F,0,none⟩),qv]) (by simp[a.none]) rfl (λan w=>pY M.tozg w (f4.up g).of (X.up g).of (av.bw (by decide)) (aw.bw (by decide))) ?_;rintro d _ z f6;have e:=z.res a;simp;have a8:aS (hI (r.j.take p) ab.v0) 21000000:=by
   refine en (N7 (t:=10000) λb f=>?_) ?_
   ·obtain⟨o,_,P,h4⟩:=N.all b (sH f);exact⟨o,LG B (by omega)⟩
   ·have o:(r.j.take p).length<=1000:=aY (List.take_sublist _ _).length_le aO;have P:(r.j.take p).length*(10000+10001)<=20001000:=aY (gK o (bg _)) (by decide);exact aY (Cz P) (by decide)
  refine gS z.h (az:=[u,d]) (by simp[e]) rfl (λan w=>q5 M.tozg w ((a1.up g).up z).of f6.of (a8.bw (by decide)) ((kt av aw).bw (by decide))) ?_;rintro _ H7 Z f7;have x7:=(K.trans z Z).res a;have L:=g.trans (z.trans Z);have ax:=L.some a J;obtain⟨ub,rfl,_⟩:=id f7;simp[x7,ax,aW,cj,cd,y0,y1,y2,y3,y4, dM,dj];have d:aF pm aj.next H7 (H7.put dr (.cells [ee,cn,.pointer (some ⟨ub,0,none⟩)] (.t tyY))):=aF.put (.refl Z.h) ae ax (by simp) _;have e:r.j.take (p+1)=r.j.take p++[c]:=by rw[List.take_add_one,e5];rfl
  refine⟨aF.trans (K.trans V L) d,(((uu.trans (I.mono D.next)).trans n).trans (L.mono V.next)).trans d,?_,?_⟩
  ·rw[e,N6,ak];exact f7.up d
  ·have b:=(U.k a L).ext d λy v=>by rw[a7 (h:=Ne.symm ag)];exact v
   refine b.congr λy G=>?_;rw[e,hV,List.foldl_append];show hX (hV (r.j.take p)) c y=_;rw[hX,ak]
 ·rintro u _ ⟨c,d,e,a,b⟩;rw[V5]at a b;simp[-ta];exact aJ _ _ u c d e a b (by simp)
end
abbrev tyR:Nat:=T.T3
section
variable{ak:Nat}{ai:Nat->Nat}{lc bo:Value}{ab:aI}{gi:Option Addr}{gj:Nat}
theorem J5{i:Nat}:ab.nM.ah (ab.a.length+i)=if(ab.row i).kind=1 then none else fc (ab.row i).rhs:=by
 show(if ab.a.length+i<ab.a.length then _ else if(ab.row (ab.a.length+i-ab.a.length)).kind=1 then none else fc (ab.row (ab.a.length+i-ab.a.length)).rhs)=_;rw[aC (by omega),show ab.a.length+i-ab.a.length=i by omega]
theorem J6{i:Nat}:ab.nM.up (ab.a.length+i)=if(ab.row i).kind=3 then none else fc (ab.row i).rhs:=by
 show(if ab.a.length+i<ab.a.length then _ else if(ab.row (ab.a.length+i-ab.a.length)).kind=3 then none else fc (ab.row (ab.a.length+i-ab.a.length)).rhs)=_;rw[aC (by omega),show ab.a.length+i-ab.a.length=i by omega]
theorem Lu{i:Nat}:ab.L.v (ab.a.length+i)=hI (ab.row i).j ab.v0:=by
 show(if ab.a.length+i<ab.a.length then _ else hI (ab.row (ab.a.length+i-ab.a.length)).j ab.v0)=_;rw[aC (by omega),show ab.a.length+i-ab.a.length=i by omega]
theorem Qu(v:ep X)(b:bs pm aj)(c:K pm aj H)(I:pm.ah<=ak)(e:ak<=aj.next)(l:ab.ok)(J:ab.I=true){i:Nat}(aJ:i<ab.rows.length)(ez:fB ab.nM ak aj ai (.slice gi ab.a.length gj) bo (ab.a.length+i) i ab.a.length ab.L){bP:Value}(M:gB aj bP (ab.row i).j){aE d dr:Nat}{rZ w:cz}{ee cn u:Value}(x:aj.next<=dr)
 (y:aj.get aE=some (.cells [.slice gi ab.a.length gj,bo] rZ)) (N:aE<ak) (z:H.get d=some (.cells ((ab.row i).cells bP) w)) (A:H.get dr=some (.cells [ee,cn,u] (.t tyY))) (O:b9 H u 0) (B:eJ H ee (ab.nM.ah (ab.a.length+i))) (C:eJ H cn (ab.nM.up (ab.a.length+i)))
 {L:bb} (D:aK 1 L=some (.pointer (some ⟨aE,0,none⟩))) (P:aK 3 L=some (.pointer (some ⟨ai 0,0,none⟩))) (R:aK 7 L=some (.int .i64 (i:Int)))
 (S:aK 8 L=some (.pointer (some ⟨d,0,none⟩))) (T:aK 9 L=some (.pointer (some ⟨dr,0,none⟩))) {k':Value} (U:aK 57 L=some k') (V:aK 58 L=some (.int .i64 (ab.rows.length:Int))) (W:aK 59 L=some (.int .i64 (i:Int))) {Q:b5}
 (Y:∀aN aa E,aF pm ak aj aa->E 0=ai 0->fB ab.nM ak aa E (.slice gi ab.a.length gj) bo (ab.a.length+(i+1)) (i+1) ab.a.length ab.L->Sub [(59,.int .i64 (i:Int)),(58,.int .i64 (ab.rows.length:Int)),(1,.pointer (some ⟨aE,0,none⟩)),(3,.pointer (some ⟨ai 0,0,none⟩)),(57,k')] aN->Q .normal aN aa):
 wp X pm (.code q0) L H [] Q:=by
 have au:=l.c;have g:=c.h;have Z:=c.some b y;obtain⟨cR,o⟩:∃ad,ad=H.next:=⟨_,rfl⟩;obtain⟨f,p⟩:∃f,f=H.new (.cells (times [.pointer none] ab.a.length) (.n 1)):=⟨_,rfl⟩;have k:K pm H f:=by rw[p];exact K.new g _
 have d1:dI f cR ab.a.length 0 λ_=>0:=⟨_,by rw[p,o];exact b4,vv _ _,λi aJ=>absurd aJ (hz _)⟩;have q:aj.next<=cR:=by rw[o];exact c.next
 have ae:pm.may cR=true:=g.may (by omega);have lx:=g.lt A;have av:=g.lt z;have r:dr≠cR:=by omega
 have af:d≠cR:=by omega
 simp[D,Z,lK g.tobR (show ab.a.length<=1073741824 by omega) (show 8*ab.a.length<=17179869184 by omega),<-p,<-o,-Es,-vH]
 refine eE (σ:=Unit) ab.a.length (λ_ _=>[(1,.pointer (some ⟨aE,0,none⟩)),(3,.pointer (some ⟨ai 0,0,none⟩)),(7,.int .i64 (i:Int)),(8,.pointer (some ⟨d,0,none⟩)),(9,.pointer (some ⟨dr,0,none⟩)),(10,.slice (some ⟨cR,0,none⟩) ab.a.length ab.a.length),(57,k'),(58,.int .i64 (ab.rows.length:Int)),(59,.int .i64 (i:Int))])
  (λa _ aa=>K pm aj aa/\aa.get d=some (.cells ((ab.row i).cells bP) w)/\aa.get dr=some (.cells [ee,cn,u] (.t tyY))/\aF pm aj.next H aa/\dI aa cR ab.a.length a λ_=>0) () (by simp[D,P,R,S,T,U,V,W]) ⟨c.trans k,k.some g z,k.some g A,k.mono c.next,d1⟩ ?_ ?_
 ·rintro s _ _ u ⟨t,K,L,Q,X⟩;have i:=t.h;simp[-ED];refine aq.of (az:=[.int .i64 0]) (o0 v.tozg i (n:=0) (by omega) (by omega)) ?_;rintro _ _ ⟨a,F⟩;obtain⟨ps,G,a2,a3⟩:=X.k i a;obtain⟨H,d4⟩:=dI.put (m:=aj.next) a.h q G a2 a3 u F (dd:=s+1) (λj hj=>by omega);obtain⟨_,rfl,_⟩:=id F;simp[G,u,ae,show s<ps.length by omega];refine⟨aF.trans (t.trans a) H,?_,?_,(Q.trans (a.mono t.next)).trans H,d4.congr λj hj=>?_⟩
  ·rw[a7 (h:=af)];exact a.some i K
  ·rw[a7 (h:=r)];exact a.some i L
  ·by_cases h:j=s<;>simp[h]
 ·rintro _ _ ⟨s,t,u,a,F⟩;simp[-vH];refine Qp v b s l J aJ (e9 _ _) ez (aI.rowAt aJ) M x q r t u (O.up a) F (v1:=.pointer (some ⟨aE,0,none⟩)) (k':=k') (by simp) (by simp) (by simp) (by simp) (by simp) (by simp) (by simp) (by simp) (by simp) λaN aa _ dd i G m H n=>?_;simp only[ts]at n;obtain⟨K,L,Q,X,ab,ag,ah,ai,_⟩:=n;have aj:=λj h=>ez.lt b (j:=j) h;refine Qt dd.h I (aY e dd.next) l aJ (ez.k b dd) (aE:=aE) (dr:=dr) (cR:=cR) (aY e x) (aY e q) r (λj h=>?_) G (dd.some b y) N ⟨?_,?_,?_⟩ ?_ H K L Q X ab ag ah ai λak bL al an ao aq ar=>?_
  ·have:=aj j h;exact⟨by omega,by omega⟩
  ·exact(B.up a).up i
  ·exact(C.up a).up i
  ·rw[Lu];exact m
  ·obtain⟨_,rfl⟩:=B.ptr;obtain⟨_,rfl⟩:=C.ptr;obtain⟨_,rfl,_⟩:=m;rename_i p1 p2 _ _;cases p1<;>cases p2<;>rfl
  ·exact Y ak bL al ((dd.mono e).trans an) ao aq ar
end
section
variable{ak:Nat}{ai:Nat->Nat}{lc bo:Value}{ab:aI}{gi:Option Addr}{gj:Nat}
theorem iM.j(h:iM aj bo ab.rows){i:Nat}(aJ:i<ab.rows.length):∃a cap b off c row bP,bo=.slice a ab.rows.length cap/\a=some ⟨b,off,none⟩/\aj.get b=some c/\rowOf c=some row/\bx row (off+i*5) 5=some ((ab.row i).cells bP)/\gB aj bP (ab.row i).j:=by
 obtain⟨a,cap,rfl,d⟩:=h.at;obtain⟨b,off,c,row,_,e,f,g,j,_,bP,k,rfl,l⟩:=d i aJ;have:=aI.St k;subst this;exact⟨a,cap,b,off,c,row,bP,rfl,e,f,g,j,l⟩
theorem Qs(u:ep X)(s:bs pm aj)(aw:pm.ah<=ak)(hn:ak<=aj.next)(M:ab.ok)(hm:ab.I=true){i:Nat}(aJ:i<ab.rows.length)(ez:fB ab.nM ak aj ai (.slice gi ab.a.length gj) bo (ab.a.length+i) i ab.a.length ab.L)(hr:iM aj bo ab.rows){aE:Nat}{rZ:cz}
 (ax:aj.get aE=some (.cells [.slice gi ab.a.length gj,bo] rZ)) (ay:aE<ak)
 {L:bb} (g:aK 1 L=some (.pointer (some ⟨aE,0,none⟩))) (j:aK 3 L=some (.pointer (some ⟨ai 0,0,none⟩))) (c:aK 57 L=some bo) (k:aK 58 L=some (.int .i64 (ab.rows.length:Int))) (e:aK 59 L=some (.int .i64 (i:Int))) {Q:b5}
 (aB:∀aN aa al,aF pm ak aj aa->al 0=ai 0->fB ab.nM ak aa al (.slice gi ab.a.length gj) bo (ab.a.length+(i+1)) (i+1) ab.a.length ab.L->Sub [(59,.int .i64 (i:Int)),(58,.int .i64 (ab.rows.length:Int)),(1,.pointer (some ⟨aE,0,none⟩)),(3,.pointer (some ⟨ai 0,0,none⟩)),(57,bo)] aN->Q .normal aN aa):
 wp X pm (.code (.seq (.bj [m 61 59,o 62 (.iW 5 (.t 57) (.t 59)),o 63 (.load true 5 (.t 62)),o 8 (.alloc tyR [(.string ⟨#[]⟩),(.int .i64 (.ofNat 0)),(.slice none 0 0),(.string ⟨#[]⟩),(.string ⟨#[]⟩)]),m 7 61,⟨none,none,.store 5 (.t 8) (.t 63)⟩]) Ez)) L aj [] Q:=by
 have aD:=M.c;obtain⟨_,_,_,_,_,_,bP,N,rfl,e2,e3,O,P⟩:=iM.j hr aJ;have al:=eB (aI.rowAt aJ);have hB:=BK hm al;have R:=M.rs _ al;obtain⟨_,S,q3,q4⟩:=Kx hB R aD;have aG:=R.1;obtain⟨r,T⟩:∃r,r=ab.row i:=⟨_,rfl⟩;have U:=J5 (ab:=ab) (i:=i);have V:=J6 (ab:=ab) (i:=i);rw[<-T]at hB R S q3 q4 aG O P U V;obtain⟨bs,aH,an,_⟩:=P.at;obtain⟨d,W⟩:∃Y,Y=aj.next:=⟨_,rfl⟩;obtain⟨v,Z⟩:∃v,v=(aj.new (.cells [.string ⟨#[]⟩,.int .i64 0,.slice none 0 0,.string ⟨#[]⟩,.string ⟨#[]⟩] (.t tyR))).put d (.cells [aA r.name,.int .i64 r.kind,.slice bs r.j.length aH,aA r.rhs,aA r.kp] (.t tyR)):=⟨_,rfl⟩;have k1:K pm aj v:=by rw[Z,W];exact ic s _ _
 have ao:v.get d=some (.cells (r.cells bP) (.t tyR)):=by rw[Z,an];exact b1
 have g1:=k1.h;have v:∀x,(aj.new x).get d=some x:=λx=>by rw[W];exact b4
 have R:pm.may d=true:=s.may (by omega);rw[N]at c;rw[an]at O;simp[c,e,aJ,e2,e3,O,s.pick,s.make,R,v,ptr,bB,bQ.cells,<-Z,<-W,-EG,-Ey];refine aq.of (az:=[.int .i64 0]) (o0 u.tozg g1 (n:=0) (by omega) (by omega)) ?_;rintro _ w ⟨y,f0⟩;have z:=y.h;obtain⟨p,rfl,_⟩:=id f0;obtain⟨a,A⟩:∃Y,Y=w.next:=⟨_,rfl⟩;obtain⟨q,ae⟩:∃q,q=(w.new (.cells [.pointer none,.pointer none,.pointer none] (.t tyY))).put a (.cells [.pointer none,.pointer none,.pointer (some ⟨p,0,none⟩)] (.t tyY)):=⟨_,rfl⟩;have v:K pm w q:=by rw[ae,A];exact ic z _ _
 have B:=v.h;have ar:q.get a=some (.cells [.pointer none,.pointer none,.pointer (some ⟨p,0,none⟩)] (.t tyY)):=by rw[ae];exact b1
 have O:=y.trans v;have af:=k1.trans O;have C:=O.some g1 ao;have O:∀x,(w.new x).get a=some x:=λx=>by rw[A];exact b4
 have ag:pm.may a=true:=z.may (by omega);have ah:aj.next<=a:=by rw[A];exact(k1.trans y).next
 have au:d≠a:=by
  have:=(y.next);have:=g1.lt ao;omega
 simp[z.pick,z.make,ptr,O,<-A,ag,bB,<-ae,C,bQ.cells,-q1,-Ex]
 have av:∀(b:ad) (t:Option Addr) (L:bb),K pm aj b->aF pm aj.next q b->b.get d=some (.cells (r.cells bP) (.t tyR))->b.get a=some (.cells [.pointer t,.pointer none,.pointer (some ⟨p,0,none⟩)] (.t tyY))->eJ b (.pointer t) (ab.nM.ah (ab.a.length+i))->
  aK 1 L=some (.pointer (some ⟨aE,0,none⟩))->aK 3 L=some (.pointer (some ⟨ai 0,0,none⟩))->aK 7 L=some (.int .i64 (i:Int))->aK 8 L=some (.pointer (some ⟨d,0,none⟩))->aK 9 L=some (.pointer (some ⟨a,0,none⟩))->aK 57 L=some bo->aK 58 L=some (.int .i64 (ab.rows.length:Int))->aK 59 L=some (.int .i64 (i:Int))->wp X pm (.code q1) L b [] Q:=by
  intro b t L o x D w y g j E m n c k e;have F:=o.h;have z:=(f0.up v).up x;have aa:=λ(f:ad) (v:Option Addr) (L:bb) (l:K pm aj f) (x:aF pm aj.next b f) (A:f.get d=some (.cells (r.cells bP) (.t tyR))) (G:f.get a=some (.cells [.pointer t,.pointer v,.pointer (some ⟨p,0,none⟩)] (.t tyY))) (O:eJ f (.pointer v) (ab.nM.up (ab.a.length+i))) (g:aK 1 L=some (.pointer (some ⟨aE,0,none⟩))) (j:aK 3 L=some (.pointer (some ⟨ai 0,0,none⟩))) (E:aK 7 L=some (.int .i64 (i:Int))) (m:aK 8 L=some (.pointer (some ⟨d,0,none⟩))) (n:aK 9 L=some (.pointer (some ⟨a,0,none⟩))) (c:aK 57 L=some bo) (k:aK 58 L=some (.int .i64 (ab.rows.length:Int))) (e:aK 59 L=some (.int .i64 (i:Int)))=>
   Qu u s l aw hn M hm aJ ez (bP:=bP) (by rw[<-T];exact P) ah ax ay (by rw[<-T];exact A) G (by simpa using z.up x) (y.up x) O g j E m n c k e (Q:=Q) aB
  simp[m,D,bQ.cells,-Ew,-q0];by_cases H:r.kind=3
  ·have d:(r.kind==3)=true:=by simpa using H
   simp[d,-q0];refine aa b none _ o (aF.refl F) D w (by rw[V,aT H];rfl) (by simp[g]) (by simp[j]) (by simp[E]) (by simp[m]) (by simp[n]) (by simp[c]) (by simp[k]) (by simp[e])
  ·have d:(r.kind==3)=false:=by simpa using H
   simp[d,m,D,bQ.cells,-q0,-EE];refine aq.of (az:=[aA r.rhs]) (td u F λ_=>S) ?_;rintro _ f ⟨l,L⟩;have G:=l.some F w;obtain⟨Q,rfl⟩:=L.ptr;obtain⟨i,I⟩:∃i,i=f.put a (.cells [.pointer t,.pointer Q,.pointer (some ⟨p,0,none⟩)] (.t tyY)):=⟨_,rfl⟩;have d:aF pm aj.next f i:=by rw[I];exact aF.put (.refl l.h) ah G (by simp) _
   simp[n,G,ag,<-I,-q0];refine aa i Q _ (aF.trans (K.trans o l) d) ((l.mono o.next).trans d) (by rw[I,a7 (h:=au)];exact l.some F D) (by rw[I];exact b1) (by rw[V,aC H];exact L.up d) (by simp[g]) (by simp[j]) (by simp[E]) (by simp[m]) (by simp[n]) (by simp[c]) (by simp[k]) (by simp[e])
 by_cases J:r.kind=1
 ·have d:(r.kind==1)=true:=by simpa using J
  simp[d,-q1];refine av q none _ af (aF.refl B) C ar (by rw[U,aT J];rfl) (by simp[g]) (by simp[j]) (by simp) (by simp) (by simp) (by simp[c,N]) (by simp[k]) (by simp[e])
 ·have d:(r.kind==1)=false:=by simpa using J
  simp[d,C,bQ.cells,-q1,-EF];refine aq.of (az:=[aA r.rhs]) (td u B λ_=>S) ?_;rintro _ b ⟨f,m⟩;have n:=f.some B ar;obtain⟨o,rfl⟩:=m.ptr;obtain⟨i,l⟩:∃i,i=b.put a (.cells [.pointer o,.pointer none,.pointer (some ⟨p,0,none⟩)] (.t tyY)):=⟨_,rfl⟩;have a:aF pm aj.next b i:=by rw[l];exact aF.put (.refl f.h) ah n (by simp) _
  simp[n,ag,<-l,-q1];refine av i o _ (aF.trans (K.trans af f) a) ((f.mono af.next).trans a) (by rw[l,a7 (h:=au)];exact f.some B C) (by rw[l];exact b1) (by rw[U,aC J];exact m.up a) (by simp[g]) (by simp[j]) (by simp) (by simp) (by simp) (by simp[c,N]) (by simp[k]) (by simp[e])
end
section
variable{ak:Nat}{ai:Nat->Nat}{ab:aI}
theorem Qv(o:ep X)(g:bs pm H)(l:ab.ok)(x:ab.I=true){p q:Value}(y:gC H p ab.a)(z:iM H q ab.rows):
 Call X pm F.oP [.agg #[p,q]] H λr aa=>K pm H aa/\∃ai,r=.pointer (some ⟨ai 0,0,none⟩)/\cl ab.nM H.next aa ai p q ab.L:=by
 refine Call.P o.oP rfl λ_ B=>?_;have p:=l.c;have p:=l.r;obtain⟨b,c,rfl,_⟩:=y.at;obtain⟨d,e,rfl,_⟩:=z.at;obtain⟨aE,s⟩:∃t,t=H.next:=⟨_,rfl⟩;obtain⟨a,m⟩:∃a,a=H.new (.cells [.slice b ab.a.length c,.slice d ab.rows.length e] (.t tyB)):=⟨_,rfl⟩;have n:K pm H a:=by rw[m];exact K.new g _
 have h:=n.h;have u:a.get aE=some (.cells [.slice b ab.a.length c,.slice d ab.rows.length e] (.t tyB)):=by rw[m,s];exact b4
 have p:a.next=aE+1:=by rw[m,s];rfl
 obtain⟨f,i⟩:∃t,t=a.next:=⟨_,rfl⟩;obtain⟨j,v⟩:∃j,j=a.new (.cells [.slice b ab.a.length c,.slice d ab.rows.length e,.slice none 0 0,.slice none 0 0,.slice none 0 0,.slice none 0 0] (.t tyT)):=⟨_,rfl⟩;have p:K pm a j:=by rw[v];exact K.new h _
 have q:j.get f=some (.cells [.slice b ab.a.length c,.slice d ab.rows.length e,.slice none 0 0,.slice none 0 0,.slice none 0 0,.slice none 0 0] (.t tyT)):=by rw[v,i];exact b4
 have t:=p.some h u;have C:=y.ext (n.ext g);have y:=z.ext (n.ext g);have A:pm.ah<=f:=by rw[i];exact h.ah
 have w:∀{aa:ad},K pm a aa->gC aa (.slice b ab.a.length c) ab.a/\iM aa (.slice d ab.rows.length e) ab.rows/\aa.get aE=some (.cells [.slice b ab.a.length c,.slice d ab.rows.length e] (.t tyB)):=λk=>⟨C.ext (k.ext h),y.ext (k.ext h),k.some h u⟩;simp[g.pick,g.make,ptr,<-s,<-m,u,bB,bx,setCells,  <-i,<-v,t,-Eu,-EB];have D:fB ab.nM f j (λ_=>f) (.slice b ab.a.length c) (.slice d ab.rows.length e) 0 0 0 ab.L:=by
  refine⟨q,λh=>absurd h (Nat.lt_irrefl 0),λh=>absurd h (Nat.lt_irrefl 0),λh=>absurd h (Nat.lt_irrefl 0),λh=>absurd h (Nat.lt_irrefl 0),λh g=>absurd g (hz _),λh _ g h _=>?_,λ_ _=>bg _⟩;unfold Real at g h;omega
 refine eE (σ:=Unit) ab.a.length (λ_ _=>[(1,.pointer (some ⟨aE,0,none⟩)),(3,.pointer (some ⟨f,0,none⟩)),(18,.slice b ab.a.length c)])
  (λk _ aa=>K pm a aa/\∃ai,ai 0=f/\fB ab.nM f aa ai (.slice b ab.a.length c) (.slice d ab.rows.length e) k 0 k ab.L) () (by simp) ⟨p,_,rfl,D⟩ ?_ ?_
 ·rintro k _ _ j ⟨g,ai,h,k⟩;obtain⟨m,_,_⟩:=w g;refine Qr o g.h A (by rw[i];exact g.next) l x j k (aE:=aE) m (by simp) (by simp[h]) (by simp) (by simp) (by simp) λ_ aa k u m p j=>?_;rw[h]at j;simp;refine⟨by simpa using j,aF.trans g (u.mono (by omega)),k,m.trans h,p⟩
 ·rintro _ _ ⟨j,ai,g,p⟩;obtain⟨q,k,h⟩:=w j;simp[h,-Et]
  refine eE (σ:=Unit) ab.rows.length (λ_ _=>[(1,.pointer (some ⟨aE,0,none⟩)),(3,.pointer (some ⟨f,0,none⟩)),(57,.slice d ab.rows.length e)])
   (λm _ aa=>K pm a aa/\∃ai,ai 0=f/\fB ab.nM f aa ai (.slice b ab.a.length c) (.slice d ab.rows.length e) (ab.a.length+m) m ab.a.length ab.L) () (by simp) ⟨j,ai,g,p⟩ ?_ ?_
  ·rintro _ _ _ b ⟨a,ai,g,c⟩;obtain⟨q,k,h⟩:=w a;refine Qs o a.h A (by rw[i];exact a.next) l x b c k h (by omega) (by simp) (by simp[g]) (by simp) (by simp) (by simp) λ_ aa c u d e b=>?_;rw[g]at b;simp;refine⟨by simpa using b,aF.trans a (u.mono (by omega)),c,d.trans g,e⟩
  ·rintro _ _ ⟨a,ai,g,b⟩;simp;obtain⟨c,d,e⟩:=fB.full (P:=ab.nM) b a.h (by rw[i];exact a.next);refine B _ _ _ ?_;simp;exact⟨n.trans a,c,(d.trans g).symm,e.mono (by omega)⟩
end
abbrev tyA:Nat:=T.TX
abbrev tySB:Nat:=T.TW
structure hE where
 st:Int
 val:List UInt8
 x:List (List UInt8)
 d:List (List UInt8)
 r:List (List UInt8)
def vZ(H:ad)(v:Value)(a:hE):Prop:=∃b c d,v=.agg #[.int .i64 a.st,aA a.val,b,c,d]/\iN H b a.x/\iN H c a.d/\iN H d a.r
theorem vZ.ext{v:Value}{a:hE}(h:vZ H v a)(e:Ext H aa):vZ aa v a:=by
 obtain⟨a,b,c,rfl,d,f,g⟩:=h;exact⟨a,b,c,rfl,d.ext e,f.ext e,g.ext e⟩
theorem iN.nil:iN H (.slice none 0 0) []:=⟨none,0,rfl,λ_ a=>absurd a (hz _)⟩
def h3(H:ad)(ak:Nat)(v:Value)(l:List (List UInt8)):Prop:=iN H v l/\∀b a m c,v=.slice (some ⟨b,a,none⟩) m c->ak<=b/\∃y,H.get b=some y
theorem h3.nil{ak:Nat}:h3 H ak (.slice none 0 0) []:=⟨.nil,λ_ _ _ _ h=>(by cases h)⟩
theorem h3.ext{ak:Nat}{v:Value}{l:List (List UInt8)}(h:h3 H ak v l)(e:Ext H aa):h3 aa ak v l:=⟨h.1.ext e,λb o m c q=>⟨(h.2 b o m c q).1,(h.2 b o m c q).2.imp λ_ a=>e _ _ a⟩⟩
theorem h3.mono{ak cf:Nat}{v:Value}{l:List (List UInt8)}(h:h3 H ak v l)(e:cf<=ak):h3 H cf v l:=⟨h.1,λb o m c q=>⟨aY e (h.2 b o m c q).1,(h.2 b o m c q).2⟩⟩
theorem h3.put{ak c:Nat}{v:Value}{l:List (List UInt8)}(h:h3 H ak v l)(a:c<ak)(x:bk):h3 (H.put c x) ak v l:=by
 refine⟨?_,λb o m a q=>⟨(h.2 b o m a q).1,(h.2 b o m a q).2.imp λy d=>by rw[a7 (h:=by have:=(h.2 b o m a q).1;omega)];exact d⟩⟩;obtain⟨e,f,rfl,g⟩:=h.1.ex;refine⟨e,f,rfl,λi j=>?_⟩;obtain⟨b,c,y,k,u,rfl,l,n⟩:=g i j;have:=(h.2 b c _ _ rfl).1;exact⟨b,c,y,k,u,rfl,by rw[a7];exact l,n⟩
theorem dT.fw{c k ak:Nat}{f:Nat->List UInt8}(h:dT H c k f)(a:ak<=c):h3 H ak (.slice (some ⟨c,0,none⟩) k k) ((List.range k).map f):=
 ⟨h.strs,λ_ _ _ _ e=>by
  cases e;obtain⟨_,b,_⟩:=h;exact⟨a,_,b⟩⟩
def iK(H:ad)(ak:Nat)(v:Value)(a:hE):Prop:=∃b c d,v=.agg #[.int .i64 a.st,aA a.val,b,c,d]/\h3 H ak b a.x/\h3 H ak c a.d/\h3 H ak d a.r
theorem iK.ext{ak:Nat}{v:Value}{a:hE}(h:iK H ak v a)(e:Ext H aa):iK aa ak v a:=by
 obtain⟨a,b,c,rfl,d,f,g⟩:=h;exact⟨a,b,c,rfl,d.ext e,f.ext e,g.ext e⟩
theorem iK.mono{ak cf:Nat}{v:Value}{a:hE}(h:iK H ak v a)(e:cf<=ak):iK H cf v a:=by
 obtain⟨a,b,c,rfl,d,f,g⟩:=h;exact⟨a,b,c,rfl,d.mono e,f.mono e,g.mono e⟩
theorem iK.put{ak c:Nat}{v:Value}{a:hE}(h:iK H ak v a)(b:c<ak)(x:bk):iK (H.put c x) ak v a:=by
 obtain⟨a,c,d,rfl,e,f,g⟩:=h;exact⟨a,c,d,rfl,e.put b x,f.put b x,g.put b x⟩
def kW(ab:aI)(T:bd):List (List UInt8):=(List.range ab.nM.n).map λj=>cZ (T.v j)
def Oa(ab:aI)(T:bd):List (List UInt8):=(List.range ab.nM.m).map (kF ab.nM T (red ab.nM ab.cs T) ab.nM.n)
def yT(ab:aI)(xs:List (List UInt8)):List UInt8:=match oG ab xs with
 | some v=>cZ v
 | none=>[]
inductive p0(ab:aI)(mn lf:bd->Prop):hE->Prop
 | inf (T:bd) (a:Nat):mn T->kv ab.nM T=some a->kM ab.nM T a (off ab.nM T.v (T.rows a))=none->p0 ab mn lf ⟨2,[],[],(List.range ab.nM.m).map (k8 ab.nM T a),[]⟩
 | qW (T:bd) (af:Nat):lf T->enters ab.nM ab.cs T=some af->(dn ab.nM T af (hp ab.nM ab.cs T af) ab.nM.m).Y=none->p0 ab mn lf ⟨3,[],kW ab T,[],(List.range ab.nM.n).map (pH T af (hp ab.nM ab.cs T af) ab.nM.m)⟩
 | opt (T:bd):lf T->enters ab.nM ab.cs T=none->p0 ab mn lf ⟨1,yT ab (kW ab T),kW ab T,Oa ab T,[]⟩
structure tm(ab:aI)(mn lf:bd->Prop)(t:Nat):Prop where
 t1:1<=t
 s7:t<=20000
 s1:mn ab.L
 g1:∀T,mn T->Inv ab.nM T/\gQ ab.nM T t/\Ends (hr ab.nM) T
 cf:∀T tt,mn T->hr ab.nM T=some tt->mn tt
 s2:∀T,mn T->kv ab.nM T=none->lf T
 g2:∀T,lf T->Inv ab.nM T/\gQ ab.nM T t/\Ends (gk ab.nM ab.cs) T
 fR:∀T tt,lf T->gk ab.nM ab.cs T=some tt->lf tt
 yL:∀T,lf T->o4 (kW ab T)
theorem Ga(d:ep X)(g:bs pm H){ab:aI}(e:ab.ok){v:Value}(hv:iL H v ab){L M:bd->Prop}{t:Nat}(hR:ab.I=true->tm ab L M t):
 Call X pm F.nr [v] H λr aa=>K pm H aa/\(ab.I=false/\r=.tuple #[.agg #[.int .i64 0,aA [],.slice none 0 0,.slice none 0 0,.slice none 0 0],.bool false]∨ab.I=true/\∃a u,r=.tuple #[u,.bool true]/\iK aa H.next u a/\p0 ab L M a):=by
 refine Call.P d.nr rfl λ_ B=>?_;have ag:=hv;obtain⟨_,_,rfl,C,N⟩:=hv;obtain⟨l,m,rfl,_⟩:=C.at;obtain⟨o,p,rfl,_⟩:=N.at;obtain⟨b0,ah⟩:∃O,O=H.next:=⟨_,rfl⟩;obtain⟨q,P⟩:∃q,q=H.new (.cells [.slice l ab.a.length m,.slice o ab.rows.length p] (.t tySB)):=⟨_,rfl⟩;have Q:K pm H q:=by rw[P];exact K.new g _
 have g1:=Q.h;have an:q.get b0=some (.cells [.slice l ab.a.length m,.slice o ab.rows.length p] (.t tySB)):=by rw[P,ah];exact b4
 obtain⟨h,ai⟩:∃O,O=q.next:=⟨_,rfl⟩;obtain⟨D,S⟩:∃D,D=q.new (.cells [.int .i64 0,.string ⟨#[]⟩,.slice none 0 0,.slice none 0 0,.slice none 0 0] (.t tyA)):=⟨_,rfl⟩;have O:K pm q D:=by rw[S];exact K.new g1 _
 have T:=O.h;have ao:D.get h=some (.cells [.int .i64 0,.string ⟨#[]⟩,.slice none 0 0,.slice none 0 0,.slice none 0 0] (.t tyA)):=by rw[S,ai];exact b4
 have aj:=O.some g1 an;have ak:=Q.trans O;have q:=Q.next;have E:pm.may h=true:=g.may (by omega);simp[g.pick,g.make,ptr,<-ah,<-P,  <-ai,<-S,aj,bx,bB,-DK,-DM,-DV];refine aq.of (az:=[.agg #[.slice l ab.a.length m,.slice o ab.rows.length p]]) (zf d.toiO T (ag.ext (ak.ext g)) e) ?_;rintro _ H3 ⟨G,rfl⟩;have s:=G.h;have x:=ak.trans G;have I:=G.some T ao;have al:=G.some T aj
 cases j:ab.I with
 | false=>
   simp[I,E,setCells];refine B _ _ _ ?_;simp[dG,bB,bx,j];have:=aF.put (n:=H.next) (.refl s) (show H.next<=h by omega) I (by simp) (.cells [.int .i64 0,.string ⟨#[]⟩,.slice none 0 0,.slice none 0 0,.slice none 0 0] (.t tyA));exact aF.trans x this
 | true=>
   have R:=hR j;simp[al,bx,bB,-DJ,-DU];refine aq.of (az:=[.agg #[.slice l ab.a.length m,.slice o ab.rows.length p]]) (Qv d s e j (C.ext (x.ext g)) (N.ext (x.ext g))) ?_;rintro _ H4 ⟨r,k,rfl,q⟩;have U:=x.trans r;have D:=r.h;have i:=ab.QT;have po:=i.ok e;have V:∀{aa:ad},aF pm H3.next H4 aa->K pm H aa/\gC aa (.slice l ab.a.length m) ab.a/\iM aa (.slice o ab.rows.length p) ab.rows/\aa.get h=some (.cells [.int .i64 0,.string ⟨#[]⟩,.slice none 0 0,.slice none 0 0,.slice none 0 0] (.t tyA))/\aa.get b0=some (.cells [.slice l ab.a.length m,.slice o ab.rows.length p] (.t tySB)):=λu=>by
    have a:K pm H3 _:=aF.trans r u;have b:=K.trans x a;exact⟨b,C.ext (b.ext g),N.ext (b.ext g),a.some s I,a.some s al⟩
   simp[-DT,-DI,-DH];refine aq.of (az:=[.pointer (some ⟨k 0,0,none⟩)]) (Ou d D s.ah r.next po L R.t1 R.s7 R.g1 R.cf q R.s1) ?_;rintro _ _ ⟨W,v,t5,X,h5⟩;have Y:=v.h;obtain⟨ar,c5,r5,au,_⟩:=V v;obtain⟨av,aw,_⟩:=R.g1 W X;have F:=R.s7;have Z:∀{aa:ad} (q:List Value),K pm H aa->aa.get h=some (.cells [.int .i64 0,.string ⟨#[]⟩,.slice none 0 0,.slice none 0 0,.slice none 0 0] (.t tyA))->K pm H (aa.put h (.cells q (.t tyA)))/\aF pm H.next aa (aa.put h (.cells q (.t tyA))):=λq w f=>by
    have u:=aF.put (n:=H.next) (.refl w.h) (show H.next<=h by omega) f (by simp) (.cells q (.t tyA));exact⟨aF.trans w u,u⟩
   have y:∀c,H4.next<=c->h≠c:=λc C=>by
    have:=s.lt I;have:=r.next;omega
   rcases h5 with⟨hw,rfl⟩ | ⟨a,hw,HZ,rfl⟩
   ·simp[-DR,-DG,-DO];refine aq.of (az:=[.pointer (some ⟨k 0,0,none⟩)]) (NZ d Y s.ah (aY r.next v.next) e j i c5 (λaa u=>(V (v.trans u)).2.1) M R.t1 R.s7 R.g2 R.fR t5 (R.s2 W X hw)) ?_;rintro _ _ ⟨a,q,n,H,h6⟩;have h:=v.trans q;have b:=h.h;obtain⟨K,z,r6,ad,ax⟩:=V h;obtain⟨ae,A,_⟩:=R.g2 a H;have q:=h.next
    rcases h6 with⟨he,rfl⟩ | ⟨af,he,HY,rfl⟩
    ·simp[-DN,-DX];refine aq.of (az:=[.pointer (some ⟨k 0,0,none⟩)]) (Ke d b e i n z F A) ?_;rintro _ _ ⟨u,c,rfl,_,s7⟩;have h:=K.trans u;have q:=u.some b ax;have r:=u.some b ad;have g7:=u.h;simp[q,bx,bB,-DW,-DL];refine aq.of (az:=[.agg #[.slice l ab.a.length m,.slice o ab.rows.length p],.slice (some ⟨c,0,none⟩) ab.nM.n ab.nM.n]) (MK d.toiO g7 (ag.ext (h.ext g)) e s7.strs (R.yL a H)) ?_;rintro _ _ ⟨k8,rfl⟩;have J:=u.trans k8;have g8:=k8.h;have af:s8 (oG ab (kW ab a))=.tuple #[aA (yT ab (kW ab a)),.bool (oG ab (kW ab a)).isSome]:=by
      unfold yT;cases oG ab (kW ab a)<;>rfl
     rw[show(List.map (λh=>cZ (a.v h)) (List.range ab.nM.n))=kW ab a from rfl,af];simp[-DQ];refine aq.of (az:=[.pointer (some ⟨k 0,0,none⟩)]) (Kp d g8 e j i (n.k b J) (z.ext (J.ext b)) ae.y (t:=t) (by omega) A) ?_;rintro h _ ⟨k9,l⟩;have g:=J.trans k9;have m:=k9.h;have o:∀w,w<ab.nM.n->aS (red ab.nM ab.cs a w) 10000000:=λw p=>en (yl e i A p (bg _)) (by
      have p:=po.m;have:ab.nM.m*(10001+t)<=40*30001:=gK p (by omega);omega)
     simp[-DP];refine aq.of (az:=[.pointer (some ⟨k 0,0,none⟩),h]) (Hj d m e i (n.k b g) (z.ext (g.ext b)) (r6.ext (g.ext b)) ae.y l (jj:=10000000) (by omega) o) ?_;rintro _ _ ⟨aa,f,rfl,_,ay⟩;have h:=g.trans aa;have l:=h.some b ad;have m:=J.next;have m:=g.next;obtain⟨g,_⟩:=Z [.int .i64 1,aA (yT ab (kW ab a)),.slice (some ⟨c,0,none⟩) ab.nM.n ab.nM.n,.slice (some ⟨f,0,none⟩) ab.nM.m ab.nM.m,.slice none 0 0] (K.trans h) l;simp[l,E,setCells,bB];refine B _ _ _ ?_;simp[dG,bx,bB,j];refine⟨g,_,?_,.opt a H he⟩;have g:=U.next;exact⟨_,_,_,rfl,((s7.k g7 (k8.trans (k9.trans aa))).e7 (y c (by omega)) _).fw (by omega),(ay.e7 (y f (by omega)) _).fw (by omega),.nil⟩
    ·have t:=tF he;simp[-DZ];refine aq.of (az:=[.pointer (some ⟨k 0,0,none⟩)]) (Ke d b e i n z F A) ?_;rintro _ _ ⟨g,c,rfl,_,s7⟩;have u:=g.h;obtain⟨t,J,_⟩:=lr he;simp only[b3,df]at J;have aa:hp ab.nM ab.cs a af=1∨hp ab.nM ab.cs a af=-1:=by
      unfold hp
      rcases jH J.1 with⟨_,f⟩ | ⟨_,f⟩<;>rw[f]<;>simp
     simp[-DY];refine aq.of (az:=[.pointer (some ⟨k 0,0,none⟩),.int .i64 (af:Int),.int .i64 (hp ab.nM ab.cs a af)]) (R7 d u e i (n.k b g) (z.ext (g.ext b)) ae.y F A t aa) ?_;rintro _ _ ⟨k8,f,rfl,_,s8⟩;have h:=g.trans k8;have l:=h.some b ad;have b:=g.next;obtain⟨b,_⟩:=Z [.int .i64 3,.string ⟨#[]⟩,.slice (some ⟨c,0,none⟩) ab.nM.n ab.nM.n,.slice none 0 0,.slice (some ⟨f,0,none⟩) ab.nM.n ab.nM.n] (K.trans h) l;simp[l,E,setCells,bB];refine B _ _ _ ?_;simp[dG,bx,bB,j];refine⟨b,_,?_,.qW a af H he HY⟩;have a:=U.next;exact⟨_,_,_,rfl,((s7.k u k8).e7 (y c (by omega)) _).fw (by omega),.nil,(s8.e7 (y f (by omega)) _).fw (by omega)⟩
   ·obtain⟨f,_⟩:=lr hw;simp[-DS];refine aq.of (az:=[.pointer (some ⟨k 0,0,none⟩),.int .i64 (a:Int)]) (SO d Y e i t5 c5 r5 av.y F aw f) ?_;rintro _ _ ⟨b,c,rfl,_,g⟩;have d:=b.some Y au;have e:=v.next;obtain⟨e,_⟩:=Z [.int .i64 2,.string ⟨#[]⟩,.slice none 0 0,.slice (some ⟨c,0,none⟩) ab.nM.m ab.nM.m,.slice none 0 0] (ar.trans b) d;simp[d,E,setCells,bB];refine B _ _ _ ?_;simp[dG,bx,bB,j];refine⟨e,_,?_,.inf W a X hw HZ⟩;have b:=U.next;exact⟨_,_,_,rfl,.nil,(g.e7 (y c (by omega)) _).fw (by omega),.nil⟩
def yM:Option Rat->List UInt8
 | some q=>cZ q
 | none=>[]
structure hE.ok(a:hE):Prop where
 x:o4 a.x
 d:o4 a.d
 r:o4 a.r
end Go.Dam.C
namespace Go.Dam.C
section
variable{P:bu}{c:Nat->Rat}{T:bd}
def hn(P:bu)(v:Nat->Rat)(x:Nat):Prop:=v x=0∨P.ah x=some (v x)∨P.up x=some (v x)
structure ho(P:bu)(s:Nat->Nat)(T:bd):Prop where
 inv:Inv P T
 rM:ff P s T≠0
 at':∀k,k<P.n->hn P T.v (T.a k)
theorem Oq{a af:Nat}(h:Inv P T)(g:nD P T a af)(eA:∀k,k<P.n->hn P T.v (T.a k)):∀k,k<P.n->hn P (gW P T a af).v ((gW P T a af).a k):=by
 intro k b;show hn P (gW P T a af).v (if k=af then T.rows a else T.a k);by_cases e:k=af
 ·rw[aT e];unfold hn;rw[AI h g];unfold goal
  rcases sg g.off with⟨e4,l,g',_⟩ | ⟨e4,u,hu,_⟩
  ·rw[e4,aC (by decide),g'];exact .inr (.inl rfl)
  grind
 ·rw[aC e];have:(gW P T a af).v (T.a k)=T.v (T.a k):=by
   show(T.e6 P af _).v (T.a k)=_;rw[r8 h.y g.da b,aC e]
  have a:=eA k b;unfold hn at a|-;grind
theorem ho.fit{s:Nat->Nat}(b:∀x,1<=s x)(h:ho P s T){a af:Nat}(g:nD P T a af):ho P s (gW P T a af):=
 ⟨HE h.inv g,FF (T:=T.e6 P af (qh P T a af)) b (h.inv.e6 g.da _) g.eA g.da g.mT h.rM,Oq h.inv g h.at'⟩
theorem gb.MY(h:Inv P T){af:Nat}{aG:Int}{f:fD}{q:Rat}(g:gb P c T af aG f q)(eA:∀k,k<P.n->hn P T.v (T.a k)):∀k,k<P.n->hn P (gU P T af aG q f.ind).v ((gU P T af aG q f.ind).a k):=by
 intro k c
 cases b:f.ind with
 | none=>
   have a:=g.vx h.y c;rw[b]at a;show hn P (gU P T af aG q none).v (T.a k);by_cases e:k=af
   ·subst e;rw[aT rfl]at a;have d:=(g.G.own b).1;rw[g.Y]at d;unfold hn;rw[a]
    rcases g.gx with rfl | rfl
    ·obtain⟨_,_,_⟩:=vg d.symm;grind
    ·obtain⟨_,_,_⟩:=vf d.symm;grind
   ·rw[aC e]at a;have a:=eA k c;unfold hn at a|-;grind
 | some a=>
   obtain⟨l,f,_,r,d,i⟩:=g.G.row a b;show hn P (gU P T af aG q (some a)).v (if k=af then T.rows a else T.a k);by_cases e:k=af
   ·rw[aT e];have j:=g.LH h.y l;rw[b]at j;rw[g.Y]at i;have k:=jt f;have k:cX (T.M a af)*q=r:=by
     have:q=r/cX (T.M a af):=jF i;have g:cX (T.M a af)≠0:=by grind
     grind
    unfold hn;rw[j]
    rcases vn g.gx f with⟨e4,cq⟩ | ⟨e4,cq⟩<;>rw[e4]at d<;>rw[cq]
    ·obtain⟨_,_,_⟩:=vg d;grind
    ·obtain⟨_,_,_⟩:=vf d;grind
   ·rw[aC e];have a:=g.vx h.y c;rw[b,aC e]at a;have a:=eA k c;unfold hn at a|-;grind
theorem ho.desc{s:Nat->Nat}(a:∀x,1<=s x)(h:ho P s T){af:Nat}{aG:Int}{f:fD}{q:Rat}(g:gb P c T af aG f q):ho P s (gU P T af aG q f.ind):=by
 refine⟨g.inv h.inv,?_,g.MY h.inv h.at'⟩
 cases b:f.ind with
 | none=>exact h.rM
 | some c=>
   obtain⟨d,e,_⟩:=g.G.row c b;exact FF (T:=T.e6 P af _) a (h.inv.e6 g.da _) d g.da e h.rM
structure we(P:bu)(V:Nat):Prop where
 v1:1<=V
 ah:∀x l,P.ah x=some l->cu V l
 up:∀x u,P.up x=some u->cu V u
theorem wu{V:Nat}(h:1<=V):cu V 0:=⟨by simp,h⟩
theorem hn.cu{V:Nat}(a:we P V){v:Nat->Rat}{x:Nat}(h:hn P v x):cu V (v x):=by
 rcases h with h | h | h
 ·rw[h];exact wu a.v1
 ·exact a.ah x _ h
 ·exact a.up x _ h
structure FA(P:bu)(c:Nat->Rat)(S E C':Nat):Prop where
 p:1<=C'
 le:C'<=S
 z:∀j,j<P.n->dF ((C':Rat)*c j) E
def mo(P:bu)(s:Nat->Nat)(T:bd):Prop:=ho P s T/\ri P T
def lh(P:bu)(s:Nat->Nat)(T:bd):Prop:=ho P s T/\th P T
theorem mo.next{s:Nat->Nat}(b:∀x,1<=s x)(c:tn P){a:bd}(h:mo P s T)(e:hr P T=some a):mo P s a:=by
 obtain⟨_,_,g,rfl⟩:=HD e;exact⟨h.1.fit b g,HF c h.1.inv h.2 g⟩
theorem lh.next{s:Nat->Nat}(b:∀x,1<=s x){a:bd}(h:lh P s T)(e:gk P c T=some a):lh P s a:=by
 obtain⟨_,_,_,_,g,rfl⟩:=Hb e;exact⟨h.1.desc b g,g.AH h.1.inv h.2⟩
theorem mo.two{s:Nat->Nat}(h:mo P s T)(e:kv P T=none):lh P s T:=by
 refine⟨h.1,λx a=>?_⟩
 rcases h.1.inv.y.iR x a with⟨i,aJ,rfl⟩ | ⟨k,kN,rfl⟩
 ·have:=zz e i aJ;exact JB (by grind)
 ·exact h.2 k kN
theorem lh.ends{s:Nat->Nat}{S E V e:Nat}(b:lp P s S E)(d:we P V)(a:FA P c S E e)(h:lh P s T):Ends (gk P c) T:=
 NY (lh P s) (λ_c _ h e=>h.next b.pos e) (λ_c h=>⟨h.1.inv,h.2⟩) (λ_c h=>QQ b h.1.inv h.1.rM d.v1 (λk b=>(h.1.at' k b).cu d) a.p a.le a.z) h
theorem ho.Dx{s:Nat->Nat}{S E V:Nat}(b:lp P s S E)(a:we P V)(h:ho P s T){x:Nat}(c:x<P.n+P.m):cu (jO P.n ((P.n*E)^P.n) S V+V) (T.v x):=
 C.Dx b h.inv h.rM a.v1 (λk b=>(h.at' k b).cu a) c
end
def h4:List dq->Nat->Rat
 | [],_=>0
 | c::l,j=>h4 l j+if j=c.af.toNat then rd c.v else 0
theorem K5{n:Int}:∀{l:List dq} {last:Int} {f:Nat->Rat},-1<=last->hH n last l=true->(∀j:Nat,last<(j:Int)->f j=0)->∀j,l.foldl hX f j=f j+h4 l j
 | [],_,f,_,_,_,j=>by simp[h4,na]
 | c::l,last,f,_,h,a,j=>by
   simp only[hH,b3,df]at h;obtain⟨_,_,_,_,b⟩:=h;have d:(c.af.toNat:Int)=c.af:=by omega
   have d:f c.af.toNat=0:=a _ (by omega);rw[sy,K5 (last:=c.af) (by omega) b λk _=>?_]
   ·show(if j=c.af.toNat then rd c.v else f j)+h4 l j=f j+(h4 l j+if j=c.af.toNat then rd c.v else 0);grind
   ·show(if k=c.af.toNat then rd c.v else f k)=0;grind
theorem So{n:Int}{l:List dq}(h:hH n (-1) l=true)(j:Nat):hV l j=h4 l j:=by
 rw[hV,K5 (Int.le_refl _) h λ_ _=>rfl,Rat.zero_add]
theorem C3:∀{l:List dq} {f:Nat->Rat} (j:Nat),l.foldl hX f j=f j∨∃c∈l,l.foldl hX f j=rd c.v
 | [],f,j=>.inl rfl
 | c::l,f,j=>by
   rw[sy]
   rcases C3 (l:=l) (f:=hX f c) j with h | ⟨_,_,h⟩
   ·rw[h];unfold hX;split
    ·exact .inr ⟨c,.head _,rfl⟩
    ·exact .inl rfl
   grind
theorem Hf{n:Nat}{x:Nat->Rat}:∀{l:List dq},(∀c∈l,0<=c.af/\c.af<n)->hI l x=a1 (λj=>h4 l j*x j) n
 | [],_=>(pQ λ_ _=>by simp[h4,Rat.zero_mul]).symm
 | c::l,h=>by
   obtain⟨_,_⟩:=h c (.head _);have e:a1 (λj=>h4 (c::l) j*x j) n=a1 (λj=>h4 l j*x j+(if j=c.af.toNat then rd c.v else 0)*x j) n:=ew λj _=>by
    show(h4 l j+_)*x j=_;grind
   have a:a1 (λj=>(if j=c.af.toNat then rd c.v else 0)*x j) n=rd c.v*x c.af.toNat:=by
    rw[oE (j:=c.af.toNat) (by omega) λ_ _ _=>by grind,aT rfl]
   rw[e,oD,hI,Hf λd b=>h d (.tail _ b),a]
theorem Ky{y:Rat}:∀{l:List dq} {d:Nat->Rat} (j:Nat),sO l y d j=d j-y*h4 l j
 | [],d,j=>by simp[sO,h4];grind
 | c::l,d,j=>by
   have:sO (c::l) y d j=sO l y (KE y d c) j:=rfl;rw[this,Ky];show(if j=c.af.toNat then d j-rd c.v*y else d j)-y*h4 l j=d j-y*(h4 l j+if j=c.af.toNat then rd c.v else 0);split<;>grind
section
variable{ab:aI}
theorem Kw{r:bQ}{n:Nat}(h:kq r n=true):hH n (-1) r.j=true/\∀c∈r.j,0<=c.af/\c.af<n:=by
 simp only[kq,b3]at h;refine⟨h.1,λc a=>?_⟩;obtain⟨_,_,_⟩:=(zV h.1).1 c a;grind
theorem IZ(a:ab.I=true){i:Nat}(aJ:i<ab.rows.length):kq (ab.row i) ab.a.length=true:=BK a (eB (aI.rowAt aJ))
theorem Qw(a:ab.I=true){i:Nat}(aJ:i<ab.a.length):h6 (ab.af i)=true:=xy a (eB (aI.jv aJ))
theorem Fv(a:ab.I=true){i:Nat}(aJ:i<ab.rows.length)(j:Nat):ab.nM.A i j=h4 (ab.row i).j j:=So (Kw (IZ a aJ)).1 j
theorem N5(a:ab.I=true){i:Nat}(aJ:i<ab.rows.length)(x:Nat->Rat):hI (ab.row i).j x=a1 (λj=>ab.nM.A i j*x j) ab.a.length:=by
 rw[Hf (Kw (IZ a aJ)).2];exact ew λj _=>by rw[Fv a aJ]
theorem G8(a:ab.I=true){TQ:Bool}{y:Nat->Rat}:∀{k:Nat},k<=ab.rows.length->∀j,tZ ab TQ y k j=d0 ab TQ j-a1 (λi=>y i*ab.nM.A i j) k
 | 0,_,j=>by
   show d0 ab TQ j=_;simp only[a1];grind
 | k+1,_,j=>by
   show sO (ab.row k).j (y k) (tZ ab TQ y k) j=_;rw[Ky,G8 a (by omega),a1,Fv a (by omega)];grind
theorem Tj:dx ab.nM ab.L where
 r:=λi a=>by show ab.a.length+i<ab.a.length+ab.rows.length;exact Nat.add_lt_add_left a _
 c:=λk a=>by show k<ab.a.length+ab.rows.length;exact eC a (e9 _ _)
 k6:=λi j _ _ e=>by have e:ab.a.length+i=ab.a.length+j:=e;omega
 ci:=λi j _ _ e=>e
 rc:=λi k _ a e=>by have e:ab.a.length+i=k:=e;have a:k<ab.a.length:=a;omega
 iR:=λx a=>by
  have a:x<ab.a.length+ab.rows.length:=a;by_cases h:x<ab.a.length
  ·exact .inr ⟨x,h,rfl⟩
  ·exact .inl ⟨x-ab.a.length,by show x-ab.a.length<ab.rows.length;omega,by show ab.a.length+(x-ab.a.length)=x;omega⟩
theorem Ti(a:ab.I=true):Inv ab.nM ab.L where
 y:=Tj
 dD:=λ_=>Iff.rfl
 val:=λi b=>by
  show ab.L.v (ab.a.length+i)=_;rw[Lu,N5 a b];exact ew λj a=>by rw[show ab.L.v j=ab.v0 j from aT a]
 sum:=λ_=>rfl
theorem Dt{l:List UInt8}{q:Rat}(h:fc l=some q):l≠[]/\q=rd l:=by
 unfold fc at h;grind
theorem Ci(c:ab.I=true):tn ab.nM:=by
 intro x _ _ a b;by_cases h:x<ab.a.length
 ·rw[Ch h]at a;rw[Cj h]at b;obtain⟨_,rfl⟩:=Dt a;obtain⟨_,rfl⟩:=Dt b;have:=Qw c h;simp only[h6,b3,ir,df]at this;grind
 ·obtain⟨i,rfl⟩:∃i,x=ab.a.length+i:=⟨x-ab.a.length,by omega⟩;rw[J5]at a;rw[J6]at b;grind
end
theorem vd{l:List UInt8}{k:Nat}(h:l.length<=k):cu (10^k) (rd l):=by
 have d:1<=10^k:=sA _ _ (by decide);unfold rd
 cases e:gH l with
 | none=>exact wu d
 | some _=>
   unfold gH lD at e;split at e
   ·rename_i f;obtain⟨a,g,b,_⟩:=f;simp only[ax]at e;have c:∀{l:List UInt8},gm l=true->c' l<10^l.length:=λ{l} h=>by
     unfold gm at h;simp at h;exact wT (by grind)
    have h:=@G6 (gn l).2;have i:=@Jf l;have j:=c a;have m:=c g;by_cases n:k=0
    ·have:l.length=0:=by omega
     obtain rfl:l=[]:=List.length_eq_zero_iff.1 this;simp[gn,iT,gm]at a
    ·have o:10^(iT (gn l).2).1.length<=10^k:=fX (by decide) (by omega);have p:10^(iT (gn l).2).2.length<=10^k:=fX (by decide) (by omega);rw[<-e];simp only[jf];exact⟨by rw[BN b];exact aY (kk _ _) (by omega),by rw[BM b];exact aY (kk _ _) (by omega)⟩
   ·cases e
structure d'(ab:aI):Prop where
 n:ab.a.length<=6
 m:ab.rows.length<=12
 c:∀c∈ab.a,c.low.length<=30/\c.up.length<=30/\c.cost.length<=30
 r:∀r∈ab.rows,r.rhs.length<=30/\r.j.length<=1000000/\∀c∈r.j,c.v.length<=30
section
variable{ab:aI}
theorem d'.ok(h:d' ab):ab.ok:=by
 refine⟨by have:=h.n;omega,by have:=h.m;omega,λc a=>?_,λr b=>?_⟩
 ·obtain⟨_,_,_⟩:=h.c c a;exact⟨by omega,by omega,by omega⟩
 ·obtain⟨_,d,e⟩:=h.r r b;exact⟨by omega,d,λc a=>by have:=e c a;show c.v.length<=10000;omega⟩
abbrev eX:Nat:=10^30
theorem yI{l:List UInt8}(h:l.length<=30){q:Rat}(e:fc l=some q):cu eX q:=by
 obtain⟨_,rfl⟩:=Dt e;exact vd h
theorem vi(h:d' ab)(i:Nat):(ab.row i).rhs.length<=30/\∀c∈(ab.row i).j,c.v.length<=30:=by
 by_cases a:i<ab.rows.length
 ·obtain⟨_,_,_⟩:=h.r _ (eB (aI.rowAt a));grind
 ·have:ab.row i=⟨[],1,[],[],[]⟩:=by rw[aI.row,il,gr (by omega)];rfl
  grind
theorem o8(h:d' ab)(i:Nat):(ab.af i).low.length<=30/\(ab.af i).up.length<=30/\(ab.af i).cost.length<=30:=by
 by_cases a:i<ab.a.length
 ·exact h.c _ (eB (aI.jv a))
 ·have:ab.af i=⟨[],[],[],[],false⟩:=by rw[aI.af,il,gr (by omega)];rfl
  grind
theorem d'.xU(h:d' ab):we ab.nM eX:=by
 refine⟨by decide,λx l e=>?_,λx u e=>?_⟩
 ·have e:(if x<ab.a.length then fc (ab.af x).low else if(ab.row (x-ab.a.length)).kind=1 then none else fc (ab.row (x-ab.a.length)).rhs)=some l:=e;split at e
  ·exact yI (o8 h x).1 e
  ·split at e
   ·cases e
   ·exact yI (vi h _).1 e
 ·have e:(if x<ab.a.length then fc (ab.af x).up else if(ab.row (x-ab.a.length)).kind=3 then none else fc (ab.row (x-ab.a.length)).rhs)=some u:=e;split at e
  ·exact yI (o8 h x).2.1 e
  ·split at e
   ·cases e
   ·exact yI (vi h _).1 e
theorem d'.zu(h:d' ab)(i j:Nat):cu eX (ab.nM.A i j):=by
 rcases C3 (l:=(ab.row i).j) (f:=λ_=>0) j with e | ⟨c,a,e⟩
 ·show cu eX (hV _ j);rw[hV,e];exact wu (by decide)
 ·show cu eX (hV _ j);rw[hV,e];exact vd ((vi h i).2 c a)
def eU(ab:aI)(x:Nat):Nat:=if x<ab.a.length then 1 else lQ (λj=>(ab.nM.A (x-ab.a.length) j).den) ab.a.length
def o3(n:Nat):Nat:=eX^n
def jL(n:Nat):Nat:=eX*eX^n
theorem d'.eU(h:d' ab):lp ab.nM (eU ab) (o3 ab.a.length) (jL ab.a.length):=by
 have b:1<=eX^ab.a.length:=sA _ _ (by decide);refine⟨λx=>?_,λx=>?_,λx c=>aT c,λx j c d=>?_⟩
 ·unfold C.eU;split
  ·grind
  ·exact xX (λ_=>Rat.den_pos _) _
 ·unfold C.eU;split
  ·exact b
  ·exact su λj _=>(h.zu _ j).2
 ·by_cases a:x<ab.a.length
  ·have c:C.eU ab x=1:=aT a;have e:form ab.nM x j=if x=j then 1 else 0:=aT a
   have f:1<=jL ab.a.length:=pC (by decide) b;rw[c,e];split
   ·exact⟨1,by simp,f⟩
   ·exact⟨0,by simp,Nat.zero_le _⟩
  ·have b:C.eU ab x=lQ (λj=>(ab.nM.A (x-ab.a.length) j).den) ab.a.length:=aC a;have c:form ab.nM x j=ab.nM.A (x-ab.a.length) j:=aC a;rw[b,c,sx];exact wW (h.zu _ j) (uS (f:=λj=>(ab.nM.A (x-ab.a.length) j).den) d) (su λj _=>(h.zu _ j).2)
theorem d'.Nq(h:d' ab):FA ab.nM ab.cs (o3 ab.a.length) (jL ab.a.length) (lQ (λj=>(ab.cs j).den) ab.a.length):=by
 refine⟨xX (λ_=>Rat.den_pos _) _,su λj _=>(vd (o8 h j).2.2).2,λj a=>?_⟩;rw[sx];exact wW (vd (o8 h j).2.2) (uS (f:=λj=>(ab.cs j).den) a) (su λj _=>(vd (o8 h j).2.2).2)
theorem FJ{n:Nat}:∀(d k:Nat) (w:Nat->Rat),k+d<=n->(∀j,k<=j->w j=1)->dJ n ((List.range' k d).map λi j=>if i=j then(1:Rat) else 0) w=1
 | 0,_,_,_,_=>rfl
 | d+1,k,w,_,a=>by
   rw[List.range'_succ,u0,dJ,oE (j:=k) (by omega) λi _ _=>by grind,aT rfl,a k (bg _),FJ d (k+1) _ (by omega) λj _=>?_]
   ·grind
   ·rw[a j (by omega),gM,aT (by omega)];grind
theorem Mb(_:d' ab):ff ab.nM (eU ab) ab.L≠0:=by
 have e:ff ab.nM (eU ab) ab.L=1:=by
  rw[ff,List.range_eq_range'];refine(y7 (te:=(List.range' 0 ab.nM.n).map λi j=>if i=j then(1:Rat) else 0) _ (by simp) λi _ _ e b j _=>?_).trans (FJ (n:=ab.nM.n) ab.nM.n 0 (λ_=>1) (by omega) λ_ _=>rfl);simp only[iw,sG]at e b;obtain⟨a,c,rfl⟩:=e;obtain⟨_,d,rfl⟩:=b;rw[c]at d;cases d;have d:=eB c;have b:a<ab.a.length:=by
   have:=List.mem_range'_1.1 d;have c:a<0+ab.nM.n:=this.2;have c:ab.nM.n=ab.a.length:=rfl;omega
  show((C.eU ab a:Nat):Rat)*form ab.nM a j=if a=j then 1 else 0
  rw[show C.eU ab a=1 from aT b,show form ab.nM a j=if a=j then 1 else 0 from aT b];have a:((1:Nat):Rat)=1:=rfl;rw[a,Rat.one_mul]
 rw[e];decide
theorem Th(h:d' ab)(b:ab.I=true):mo ab.nM (eU ab) ab.L:=by
 have c:∀k,k<ab.a.length->ab.L.v k=pN (ab.nM.ah k) (ab.nM.up k):=λk a=>by rw[Lt a,Ch a,Cj a]
 refine⟨⟨Ti b,Mb h,λk a=>?_⟩,λk a=>?_⟩
 ·have a:k<ab.a.length:=a;show hn ab.nM ab.L.v k;unfold hn;rw[c k a];unfold pN
  cases e:ab.nM.ah k with
  | some _=>grind
  | none=>
    cases d:ab.nM.up k with
    | some _=>grind
    | none=>exact .inl rfl
 ·have a:k<ab.a.length:=a;show js ab.nM ab.L.v k;unfold js;rw[c k a];unfold pN;refine⟨λl e=>?_,λu e=>?_⟩
  ·grind
  ·cases d:ab.nM.ah k with
   | none=>grind
   | some l=>exact Ci b k l u d e
end
end Go.Dam.C
namespace Go.Dam.C
open Go Go.Dam
theorem As(n:Nat):(Lib.decDigits n).all e3=true:=by
 induction n using Nat.strongRecOn with
 | _ n ih=>
   by_cases h:n<10
   ·rw[Lib.decDigits_one h];have a:(UInt8.ofNat (48+n)).toNat=48+n:=by simp;omega
    simp[e3, ];omega
   ·rw[Lib.decDigits,dif_neg h,List.all_append,ih (n/10) (by omega)];have a:(UInt8.ofNat (48+n%10)).toNat=48+n%10:=by simp;omega
    simp[e3, ];omega
theorem NV(n:Nat):∀c,(Lib.decDigits n).head? = some c->e3 c=true/\(1<=n->c≠48):=by
 induction n using Nat.strongRecOn with
 | _ n ih=>
   intro c a;refine⟨?_,λ_=>?_⟩
   ·have:=As n
    cases b:Lib.decDigits n with
    | nil=>grind
    | cons _ _=>
      grind
   ·by_cases h:n<10
    ·rw[Lib.decDigits_one h]at a;simp at a;rintro rfl;have:=congrArg UInt8.toNat a;simp at this;omega
    ·rw[Lib.decDigits,dif_neg h]at a;have a:=wU (n/10)
     cases b:Lib.decDigits (n/10) with
     | nil=>grind
     | cons _ _=>
       grind
theorem At(n:Nat):∀c∈Lib.decDigits n,c≠47/\c≠45:=by
 intro c a;have:=As n;rw[eD]at this;have:=this c a;constructor<;>rintro rfl<;>exact absurd this (by decide)
theorem QH(q:Rat):gn (cZ q)=(decide (q<0),Lib.decDigits q.num.natAbs++if q.den=1 then[] else 47::Lib.decDigits q.den):=by
 unfold gn cZ;by_cases h:q<0
 ·simp[h]
 ·have a:=wU q.num.natAbs
  cases b:Lib.decDigits q.num.natAbs with
  | nil=>grind
  | cons a _=>
    have:=(At q.num.natAbs a (by grind)).2;simp[h,this]
theorem NK(q:Rat):iT (Lib.decDigits q.num.natAbs++if q.den=1 then[] else 47::Lib.decDigits q.den)=(Lib.decDigits q.num.natAbs,Lib.decDigits q.den):=by
 have a:47∉Lib.decDigits q.num.natAbs:=λh=>(At _ _ h).1 rfl;have b:∀c∈Lib.decDigits q.num.natAbs,(c != 47)=true:=λc b=>by simpa using(At _ c b).1
 unfold iT;by_cases h:q.den=1
 ·rw[h];simp[a,Lib.decDigits_one]
 simp_all
@[irreducible] def dj(k:Nat):Nat:=10^k
theorem gv(k:Nat):dj k=10^k:=by delta dj;rfl
theorem vu{a b:Nat} (h:a<=b:=by decide):dj a<=dj b:=by rw[gv,gv];exact fX (by decide) h
theorem Dq{a b:Nat}(h:a<b):dj a<dj b:=by rw[gv,gv];exact Nat.pow_lt_pow_right (by decide) h
theorem Tn(a:Nat):1<=dj a:=by rw[gv];grind
theorem Dr{a b c:Nat}(h:a+b=c):dj a*dj b=dj c:=by rw[<-h,gv,gv,gv,fH]
theorem To(a b:Nat):dj a^b=dj (a*b):=by rw[gv,gv];exact(mY 10 a b).symm
theorem HS{n:Nat}(h:n<dj 2000):gm (Lib.decDigits n)=true:=by
 have d:(Lib.decDigits n).length<=2000:=by
  rw[Lib.decDigits_length];exact uB (by rw[gv]at h;exact h) (by decide)
 unfold gm;have d:=wU n;have c:(Nat.blt 1 (Lib.decDigits n).length&&(Lib.decDigits n).head? ==some 48)=false:=by
  cases a:(Lib.decDigits n).head? ==some 48 with
  | false=>simp
  | true=>
    have a:(Lib.decDigits n).head? = some 48:=by simpa using a
    have b:n=0:=by
     apply lW;intro b;exact(NV n 48 a).2 (by omega) rfl
    subst b;rw[Lib.decDigits_one (by decide)];rfl
 simp only[As,c,Bool.and_true,Bool.not_false,b3];simp_all
theorem OI{q:Rat}(a:q.num.natAbs<dj 2000)(b:q.den<dj 2000):gH (cZ q)=some q:=by
 unfold gH lD;rw[QH,NK];simp only[Ar,I8];rw[aT ⟨HS a,HS b,q.den_nz,trivial⟩]
def la:Nat:=dj 1900
theorem cu.get{q:Rat}(h:cu la q):gH (cZ q)=some q:=by
 have a:la<dj 2000:=Dq (by decide);exact OI (cV h.1 a) (cV h.2 a)
theorem cu.rd{q:Rat}(h:cu la q):rd (cZ q)=q:=by unfold C.rd;rw[h.get];rfl
theorem cu.isNum{q:Rat}(h:cu la q):isNum (cZ q)=true:=by unfold C.isNum;rw[h.get];rfl
theorem cu.aS{q:Rat}(h:cu la q):aS q 2000:=by
 have a:la<4294967296^2000:=eC (Dq (show 1900<2000 by decide)) (by rw[gv];exact Kg 2000);exact⟨cV h.1 a,cV h.2 a⟩
theorem cu.len{q:Rat}(h:cu la q):(cZ q).length<=10000:=by
 have a:la<dj 2000:=Dq (by decide);have b:(Lib.decDigits q.num.natAbs).length<=2000:=by rw[Lib.decDigits_length];exact uB (by rw[gv]at a;exact cV h.1 a) (by decide)
 have b:(Lib.decDigits q.den).length<=2000:=by rw[Lib.decDigits_length];exact uB (by rw[gv]at a;exact cV h.2 a) (by decide)
 unfold cZ;grind
end Go.Dam.C
namespace Go.Dam.C
theorem xW(a b:Nat):(10^a)^b=10^(a*b):=(mY 10 a b).symm
theorem Mk{n:Nat}(a:n<=6):(n*jL n)^n<=dj 1266:=by
 have a:jL n<=10^210:=by
  unfold jL;rw[show eX*eX^n=eX^(n+1) by rw[dH,dW],xW];exact fX (by decide) (by omega)
 have b:n*jL n<=10^211:=by
  have:n*jL n<=10*10^210:=gK (by omega) a;rwa [<-Nat.pow_succ']at this
 calc (n*jL n)^n<=(10^211)^n:=x9 b n
  _=dj (211*n):=by rw[xW,gv]
  _<=dj 1266:=vu (h:=by omega)
theorem MH{n:Nat}(a:n<=6):o3 n<=dj 180:=by
 unfold o3;rw[xW,gv];exact fX (by decide) (by omega)
theorem FY{n:Nat}(a:n<=6):(n*jL n)^n*o3 n<=dj 1446:=by
 have:=gK (Mk a) (MH a);rw[Dr (show 1266+180=1446 by decide)]at this;exact this
theorem MJ{n:Nat}(a:n<=6):jO n ((n*jL n)^n) (o3 n) eX+eX<=dj 1660:=by
 unfold jO;have b:eX*eX^n<=dj 210:=by
  rw[show eX*eX^n=eX^(n+1) by rw[dH,dW],xW,gv];exact fX (by decide) (by omega)
 have c:(n*jL n)^n*o3 n*(eX*eX^n)<=dj 1656:=by
  have:=gK (FY a) b;rw[Dr (show 1446+210=1656 by decide)]at this;exact this
 have b:n*((n*jL n)^n*o3 n*(eX*eX^n))<=6*dj 1656:=gK a c;have a:eX<=dj 1656:=by rw[show eX=dj 30 from(gv 30).symm];exact vu
 have a:dj 1660=10000*dj 1656:=by rw[<-Dr (show 4+1656=1660 by decide),gv 4]
 grind
theorem cu.mono{a b:Nat}{q:Rat}(h:cu a q)(c:a<=b):cu b q:=⟨aY h.1 c,aY h.2 c⟩
section
variable{ab:aI}{T:bd}
theorem ho.Gt(h:d' ab)(a:ho ab.nM (eU ab) T){x:Nat}(b:x<ab.a.length+ab.rows.length):cu (dj 1660) (T.v x):=
 (a.Dx h.eU h.xU b).mono (MJ h.n)
theorem ho.Gs(h:d' ab)(a:ho ab.nM (eU ab) T){i k:Nat}(aJ:i<ab.rows.length)(b:k<ab.a.length):cu (dj 1446) (T.M i k):=
 (Mz h.eU a.inv a.rM aJ b).mono (FY h.n)
theorem vN{k:Nat}{q:Rat}(h:cu (dj k) q) (a:k<=1900:=by decide):cu la q:=h.mono (vu (h:=a))
theorem FK{q:Rat}(h:cu eX q):cu la q:=h.mono (by rw[show eX=dj 30 from(gv 30).symm];exact vu)
theorem ho.Lk(h:d' ab)(a:ho ab.nM (eU ab) T):gQ ab.nM T 2000 where
 v:=λx b=>⟨λl e=>(FK (h.xU.ah x l e)).aS,λl e=>(FK (h.xU.up x l e)).aS,(vN (a.Gt h b)).aS⟩
 M:=λ_ _ b c=>(vN (a.Gs h b c)).aS
theorem ho.strs(h:d' ab)(b:ho ab.nM (eU ab) T):o4 (kW ab T):=by
 refine⟨?_,λ_ c=>?_⟩
 ·have:=h.n;simp only[kW,pG,x1];show ab.a.length<_;omega
 ·obtain⟨j,a,rfl⟩:=k1.1 c;have a:j<ab.a.length:=VX.1 a;exact(vN (b.Gt h (by omega))).len
theorem runs(h:d' ab)(b:ab.I=true):tm ab (mo ab.nM (eU ab)) (lh ab.nM (eU ab)) 2000 where
 t1:=by decide
 s7:=by decide
 s1:=Th h b
 g1:=λT a=>⟨a.1.inv,a.1.Lk h,Ot (Ci b) a.1.inv a.2⟩
 cf:=λT c a e=>a.next h.eU.pos (Ci b) e
 s2:=λT a e=>a.two e
 g2:=λT a=>⟨a.1.inv,a.1.Lk h,a.ends h.eU h.xU h.Nq⟩
 fR:=λT c a e=>a.next h.eU.pos e
 yL:=λT a=>a.1.strs h
end
section
variable{ab:aI}
def KA(a:Int)(s b:Rat):Prop:=(a=1->s<=b)/\(a=3->b<=s)/\(a≠1->a≠3->s=b)
def q6(ab:aI)(x:Nat->Rat)(i:Nat):Rat:=a1 (λj=>ab.nM.A i j*x j) ab.a.length
structure zb(ab:aI)(x:Nat->Rat):Prop where
 c:∀j,j<ab.a.length->((ab.af j).low≠[]->rd (ab.af j).low<=x j)/\((ab.af j).up≠[]->x j<=rd (ab.af j).up)
 r:∀i,i<ab.rows.length->KA (ab.row i).kind (q6 ab x i) (rd (ab.row i).rhs)
structure FW(ab:aI)(d:Nat->Rat)(s q:Rat)(k:Nat):Prop where
 ok:∀j,j<k->d j≠0->(if d j<0 then(ab.af j).up else(ab.af j).low)≠[]
 sum:q=s+a1 (λj=>d j*rd (if d j<0 then(ab.af j).up else(ab.af j).low)) k
theorem xu{d:Nat->Rat}{s:Rat}:∀{k:Nat} {q:Rat},qx ab d s k=some q↔FW ab d s q k
 | 0,q=>by
   simp only[qx,ax];constructor
   ·rintro rfl;exact⟨λ_ a=>absurd a (hz _),by simp[a1,na]⟩
   ·rintro⟨_,h⟩;rw[h];simp[a1,na]
 | k+1,q=>by
   rw[qx];have a:∀(h:¬(d k≠0/\(if d k<0 then(ab.af k).up else(ab.af k).low).isEmpty=true)),BF (ab.af k) (d k)=some (d k*rd (if d k<0 then(ab.af k).up else(ab.af k).low)):=λh=>aC h;constructor
   ·intro h
    cases e:qx ab d s k with
    | none=>grind
    | some _=>
      rw[e]at h;simp only at h;obtain⟨_,c⟩:=xu.1 e;by_cases b:d k≠0/\(if d k<0 then(ab.af k).up else(ab.af k).low).isEmpty=true
      ·rw[show BF (ab.af k) (d k)=none from aT b]at h;cases h
      ·rw[a b]at h;simp only[ax]at h;refine⟨λ_ _ _=>?_,?_⟩
       ·grind
       ·rw[a1,<-h,c];grind
   ·rintro⟨b,c⟩;have e:qx ab d s k=some (s+a1 (λj=>d j*rd (if d j<0 then(ab.af j).up else(ab.af j).low)) k):=xu.2 ⟨λj _=>b j (by omega),rfl⟩;rw[e];simp only;have e:¬(d k≠0/\(if d k<0 then(ab.af k).up else(ab.af k).low).isEmpty=true):=by
     rintro⟨d,f⟩;exact b k (by omega) d (by simpa using f)
    rw[a e];simp only[ax];rw[c,a1];grind
def ub(ab:aI)(TQ:Bool)(y:Nat->Rat)(j:Nat):Rat:=d0 ab TQ j-a1 (λi=>y i*ab.nM.A i j) ab.rows.length
structure Fz(ab:aI)(TQ:Bool)(y:Nat->Rat)(b:Rat):Prop where
 gM:∀i,i<ab.rows.length->((ab.row i).kind=1->y i<=0)/\((ab.row i).kind=3->0<=y i)
 ls:FW ab (ub ab TQ y) (a1 (λi=>y i*rd (ab.row i).rhs) ab.rows.length) b ab.a.length
theorem K9{y:Nat->Rat}{i:Nat}:yx ab y i=true↔((ab.row i).kind=1->y i<=0)/\((ab.row i).kind=3->0<=y i):=by
 unfold yx;grind
theorem Nd(a:ab.I=true){TQ:Bool}{y:Nat->Rat}{b:Rat}:zL ab TQ y=some b↔Fz ab TQ y b:=by
 have e:tZ ab TQ y ab.rows.length=ub ab TQ y:=by
  funext j;exact G8 a (bg _) j
 unfold zL;rw[e];constructor
 ·intro h;split at h
  ·rename_i c;exact⟨λi b=>K9.1 (Dd.1 c i b),xu.1 h⟩
  ·cases h
 ·rintro⟨b,d⟩;rw[aT (Dd.2 λi f=>K9.2 (b i f))];exact xu.2 d
structure zi(ab:aI)(x:Nat->Rat):Prop where
 c:∀j,j<ab.a.length->((ab.af j).low≠[]->0<=x j)/\((ab.af j).up≠[]->x j<=0)
 r:∀i,i<ab.rows.length->KA (ab.row i).kind (q6 ab x i) 0
 n:ab.rE x<0
end
section
variable{ab:aI}
theorem Nc(c:ab.I=true){a:List (List UInt8)}{TQ:Bool}{b:Rat}(h:rB ab a TQ=some b):Fz ab TQ (fY a) b:=by
 unfold rB at h;split at h
 ·exact(Nd c).1 h
 ·cases h
end
section
variable{ab:aI}{T:bd}{P:bu}
def ind(a b:Nat):Rat:=if a=b then 1 else 0
def nG(P:bu)(T:bd)(e:Nat->Rat)(x:Nat):Rat:=a1 (λk=>e k*ind (T.a k) x) P.n
theorem MM(h:dx P T)(e:Nat->Rat){k:Nat}(a:k<P.n):nG P T e (T.a k)=e k:=by
 rw[nG,oE (j:=k) a λi b c=>by rw[ind,aC λe=>c (h.ci i k b a e),ow],ind,aT rfl,Rat.mul_one]
theorem Gh{e:Nat->Rat}{x:Nat}(a:∀k,k<P.n->T.a k≠x):nG P T e x=0:=pQ λk b=>by rw[ind,aC (a k b),ow]
theorem Gi(h:dx P T)(e:Nat->Rat)(x:Nat):(∃k,k<P.n/\T.a k=x/\nG P T e x=e k)∨((∀k,k<P.n->T.a k≠x)/\nG P T e x=0):=by
 by_cases a:∃k,k<P.n/\T.a k=x
 ·obtain⟨k,b,rfl⟩:=a;exact .inl ⟨k,b,rfl,MM h e b⟩
 ·exact .inr ⟨λk b e=>a ⟨k,b,e⟩,Gh λk b e=>a ⟨k,b,e⟩⟩
def want(P:bu)(w:Rat)(x:Nat):Option Rat:=if w<0 then P.up x else P.ah x
theorem YX(h:Inv ab.nM T){i:Nat}(aJ:i<ab.rows.length):q6 ab T.v i=T.v (ab.a.length+i):=(h.val i aJ).symm
theorem th.fits(g:ab.I=true)(h:Inv ab.nM T)(a:th ab.nM T):zb ab T.v:=by
 refine⟨λj b=>?_,λi c=>?_⟩
 ·obtain⟨d,f⟩:=a j (show j<ab.a.length+ab.rows.length by omega);rw[Ch b]at d;rw[Cj b]at f;exact⟨λe=>d _ (by rw[fc,aC e]),λe=>f _ (by rw[fc,aC e])⟩
 ·obtain⟨b,d⟩:=a (ab.a.length+i) (show ab.a.length+i<ab.a.length+ab.rows.length by omega);rw[J5]at b;rw[J6]at d;rw[YX h c];have a:isNum (ab.row i).rhs=true:=by
   have:=IZ g c;simp only[kq,b3]at this;exact this.2.1
  have c:(ab.row i).rhs≠[]:=by
   intro e;rw[e]at a;simp[isNum,HP]at a
  have a:fc (ab.row i).rhs=some (rd (ab.row i).rhs):=by rw[fc,aC c]
  refine⟨λc=>d _ (by rw[aC (by omega)];exact a),λd=>b _ (by rw[aC (by omega)];exact a),λc d=>?_⟩;grind
end
section
variable{ab:aI}{T:bd}{P:bu}
def pU(P:bu)(T:bd)(a x:Nat):Rat:=(off P T.v (T.rows a):Rat)*ind (T.rows a) x+nG P T (l4 P T a) x
theorem LJ{a:Nat}(h:dx P T)(eA:a<P.m):pU P T a (T.rows a)=(off P T.v (T.rows a):Rat):=by
 rw[pU,Gh λk b e=>h.rc a k eA b e.symm,ind,aT rfl,Rat.mul_one,na]
theorem LI{a x:Nat}(b:x≠T.rows a):pU P T a x=nG P T (l4 P T a) x:=by
 rw[pU,ind,aC (Ne.symm b),ow,Rat.zero_add]
end
section
variable{ab:aI}{T:bd}{P:bu}
theorem R0:cZ 0=[48]:=by
 have:Lib.decDigits 0=[48]:=by rw[Lib.decDigits_one (by decide)];rfl
 simp[cZ,this]
theorem R1:cZ 1=[49]:=by
 have:Lib.decDigits 1=[49]:=by rw[Lib.decDigits_one (by decide)];rfl
 have h:¬(1:Rat)<0:=by decide
 simp[cZ,this,h]
theorem R3:cZ (-1)=[45,49]:=by
 have:Lib.decDigits 1=[49]:=by rw[Lib.decDigits_one (by decide)];rfl
 have h:(-1:Rat)<0:=by decide
 have a:(-1:Rat).num.natAbs=1:=by decide
 have a:(-1:Rat).den=1:=by decide
 simp[cZ,this,h, a]
theorem Hi{d:Nat->Rat}{i:Nat}:∀{K:Nat},(∀k,k<K->T.a k≠P.n+i)->kF P T d K i=[48]
 | 0,_=>rfl
 | K+1,h=>by rw[kF,aC (h K (by omega)),Hi λk _=>h k (by omega)]
theorem Hh(a:dx P T){d:Nat->Rat}{i k:Nat}:∀{K:Nat},K<=P.n->k<K->T.a k=P.n+i->kF P T d K i=cZ (d k)
 | K+1,_,_,e=>by
   rw[kF];by_cases h:k=K
   ·grind
   ·rw[aC λb=>h (a.ci k K (by omega) (by omega) (e.trans b.symm)),Hh a (by omega) (by omega) e]
theorem N'(a:dx P T)(d:Nat->Rat)(i:Nat):kF P T d P.n i=cZ (nG P T d (P.n+i)):=by
 rcases Gi a d (P.n+i) with⟨k,kN,e4,cq⟩ | ⟨h,e⟩
 ·rw[cq,Hh a (bg _) kN e4]
 ·rw[e,Hi h,R0]
theorem SN(b:dx P T){a:Nat}(eA:a<P.m)(c:off P T.v (T.rows a)≠0)(i:Nat):k8 P T a i=cZ (pU P T a (P.n+i)):=by
 unfold k8;by_cases h:T.rows a=P.n+i
 ·rw[aT h,<-h,LJ b eA]
  rcases xH c with e | e<;>rw[e]
  ·rw[aT (by decide)];exact R1.symm
  ·rw[aC (by decide)];exact R3.symm
 ·rw[aC h,LI (Ne.symm h),N' b]
theorem R8{m:Nat}{f:Nat->Rat}{i:Nat}(aJ:i<m)(h:cu la (f i)):fY ((List.range m).map λi=>cZ (f i)) i=f i:=by
 unfold fY;rw[il,iw,pF aJ];exact h.rd
theorem Yw(a:ab.I=true){m:Nat}{f:Nat->Rat}(h:∀i,i<m->cu la (f i)):sh ab ((List.range m).map λi=>cZ (f i)) m=true:=by
 unfold sh;rw[a];simp only[pG,x1,decide_true,Bool.and_true];rw[eD];intro _ b;obtain⟨i,c,rfl⟩:=k1.1 b;exact(h i (VX.1 c)).isNum
theorem ZP{m:Nat}(c:m<=1000){f:Nat->Rat}(h:∀i,i<m->cu la (f i)):o4 ((List.range m).map λi=>cZ (f i)):=by
 refine⟨by simp;omega,λ_ a=>?_⟩;obtain⟨i,b,rfl⟩:=k1.1 a;exact(h i (VX.1 b)).len
theorem zb.congr{x b:Nat->Rat}(h:zb ab x)(e:∀j,j<ab.a.length->b j=x j):zb ab b:=
 ⟨λj a=>by rw[e j a];exact h.c j a,λi c=>by
  rw[show q6 ab b i=q6 ab x i from ew λj a=>by rw[e j a]];exact h.r i c⟩
theorem NH{x a:Nat->Rat}(e:∀j,j<ab.a.length->a j=x j):ab.rE a=ab.rE x:=ew λj a=>by rw[e j a]
theorem zi.congr{x b:Nat->Rat}(h:zi ab x)(e:∀j,j<ab.a.length->b j=x j):zi ab b:=
 ⟨λj a=>by rw[e j a];exact h.c j a,λi c=>by
  rw[show q6 ab b i=q6 ab x i from ew λj a=>by rw[e j a]];exact h.r i c,by rw[NH e];exact h.n⟩
theorem Gv{B:Nat}{q:Rat}(h:cu B q):cu B (-q):=by
 unfold cu at*
 simp_all
theorem Gw{B:Nat}(h:1<=B):cu B 1:=⟨h,h⟩
theorem M1{B:Nat}(a:1<=B){w:Int}(h:w=1∨w=-1):cu B (w:Rat):=by
 rcases h with rfl | rfl
 ·exact Gw a
 ·exact Gv (Gw a)
theorem MN(a:dx P T){e:Nat->Rat}{B:Nat}(b:1<=B)(h:∀k,k<P.n->cu B (e k))(x:Nat):cu B (nG P T e x):=by
 rcases Gi a e x with⟨k,kN,_,cq⟩ | ⟨_,cq⟩
 ·grind
 ·rw[cq];exact wu b
end
section
variable{ab:aI}{T:bd}
theorem SM{P:bu}{B a k:Nat}(h:cu B (T.M a k)):cu B (l4 P T a k):=by
 unfold l4;split
 ·exact Gv h
 ·exact h
theorem TN{P:bu}(b:dx P T){B a:Nat}(c:1<=B)(eA:a<P.m)(d:off P T.v (T.rows a)≠0)(h:∀k,k<P.n->cu B (T.M a k))(x:Nat):cu B (pU P T a x):=by
 by_cases e:x=T.rows a
 ·rw[e,LJ b eA];exact M1 c (xH d)
 ·rw[LI e];exact MN b c (λk a=>SM (h k a)) x
end
section
variable{ab:aI}
theorem R2{q:Rat}{k:Nat}(h:aS q k)(a:1<=k):(cZ q).length<=20*k+2:=by
 have b:=uc h.1 a;have b:=uc h.2 a;unfold cZ;grind
theorem LQ(h:d' ab)(i j:Nat):aS (ab.nM.A i j) 30:=by
 rcases C3 (l:=(ab.row i).j) (f:=λ_=>0) j with e | ⟨c,a,e⟩
 ·show aS (hV _ j) _;rw[hV,e];exact pR (by decide)
 ·show aS (hV _ j) _;rw[hV,e];exact jg ((vi h i).2 c a)
theorem Nf(h:d' ab)(e:ab.I=true){TQ:Bool}{a:List (List UInt8)}(b:∀i,aS (fY a i) 400):(yM (rB ab a TQ)).length<1000000:=by
 have p:=h.n;have c:=h.m
 cases f:rB ab a TQ with
 | none=>simp[yM]
 | some d=>
   have g:=(Nc e f).ls.sum;have k:aS (a1 (λi=>fY a i*rd (ab.row i).rhs) ab.rows.length) 5200:=by
    refine en (vt (t:=400+30) λi _=>kt (b i) (jg (vi h i).1)) ?_;exact aY (Cz (gK c (bg (400+30+1)))) (by decide)
   have l:∀j,aS (ub ab TQ (fY a) j) 5240:=λj=>by
    have m:aS (a1 (λi=>fY a i*ab.nM.A i j) ab.rows.length) 5200:=by
     refine en (vt (t:=400+30) λi _=>kt (b i) (LQ h i j)) ?_;exact aY (Cz (gK c (bg (400+30+1)))) (by decide)
    have n:aS (d0 ab TQ j) 30:=by
     unfold d0;split
     ·exact jg (o8 h j).2.2
     ·exact pR (by decide)
    exact en (S' n m) (by omega)
   have o:aS (a1 (λj=>ub ab TQ (fY a) j*rd (if ub ab TQ (fY a) j<0 then(ab.af j).up else(ab.af j).low)) ab.a.length) 31700:=by
    refine en (vt (t:=5240+30) λj _=>kt (l j) ?_) ?_
    ·split
     ·exact jg (o8 h j).2.1
     ·exact jg (o8 h j).1
    ·grind
   have a:aS d 37000:=by rw[g];exact en (s0 k o) (by omega)
   have:=R2 a (by decide);show(cZ d).length<_;omega
theorem RU(c a b:Nat)(d:1<c)(h:a<b):c^a<c^b:=Nat.pow_lt_pow_right d h
theorem M3{q:Rat}(h:cu (dj 1446) q):aS q 400:=by
 have a:dj 1446<4294967296^400:=by
  have:dj 1446<=dj 9^161:=by rw[To];exact vu
  have b:dj 9^161<=4294967296^161:=x9 (by rw[gv];decide) _;exact cV (aY this b) (RU 4294967296 161 400 (by decide) (by decide))
 exact⟨cV h.1 a,cV h.2 a⟩
theorem SZ(h:d' ab)(g:ab.I=true){c:hE}(b:p0 ab (mo ab.nM (eU ab)) (lh ab.nM (eU ab)) c)(d:c.st=2):(yM (rB ab c.d false)).length<1000000:=by
 rcases b with⟨T,a,uq,hw,HZ⟩ | ⟨T,af,uq,he,HY⟩ | ⟨T,uq,he⟩
 ·obtain⟨c,b,_⟩:=lr hw;have b:off ab.nM T.v (T.rows a)≠0:=by simpa using b
  have j:(List.range ab.nM.m).map (k8 ab.nM T a)=(List.range ab.rows.length).map λi=>cZ (pU ab.nM T a (ab.a.length+i)):=List.map_congr_left λi e=>SN uq.1.inv.y c b i;have k:1<=dj 1446:=Tn 1446;have f:∀i,cu (dj 1446) (pU ab.nM T a (ab.a.length+i)):=λi=>TN (B:=dj 1446) uq.1.inv.y k c b (λ_ b=>uq.1.Gs h c b) _;refine Nf h g λi=>?_;show aS (fY ((List.range ab.nM.m).map (k8 ab.nM T a)) i) 400;rw[j];by_cases e:i<ab.rows.length
  ·rw[R8 e (vN (f i))];exact M3 (f i)
  ·unfold fY;rw[il,gr (by simp;omega)];exact jg (by simp)
 ·cases d
 ·cases d
end
section
variable{α:Type}{f:α->Option α}
theorem uv:∀{k j:Nat} {a b c:α},e5 f k a=some b->e5 f j a=some c->f b=none->f c=none->b=c
 | 0,0,a,b,c,_,_,_,_=>by grind
 | 0,j+1,a,b,c,e,d,f,_=>by
   cases e;rw[e5,f]at d;cases d
 | k+1,0,a,b,c,d,e,_,f=>by
   cases e;rw[e5,f]at d;cases d
 | k+1,j+1,a,b,c,d,e,g,h=>by
   rw[e5]at d e
   cases b:f a with
   | none=>grind
   | some _=>
     rw[b]at d e;exact uv d e g h
theorem A7:∀{k:Nat} {a b c:α},e5 f k a=some b->f b=some c->e5 f (k+1) a=some c
 | 0,a,b,c,h,e=>by cases h;rw[e5,e];rfl
 | k+1,a,b,c,h,e=>by
   rw[e5]at h|-
   cases b:f a with
   | none=>grind
   | some _=>
     rw[b]at h;exact A7 h e
end
def vW(ab:aI)(T:bd):Prop:=mo ab.nM (eU ab) T/\∃k,e5 (hr ab.nM) k ab.L=some T
def ra(ab:aI)(T:bd):Prop:=lh ab.nM (eU ab) T/\∃a k j,e5 (hr ab.nM) k ab.L=some a/\kv ab.nM a=none/\e5 (gk ab.nM ab.cs) j a=some T
abbrev lq(ab:aI)(a:hE):Prop:=p0 ab (vW ab) (ra ab) a
theorem KO{ab:aI}(h:d' ab)(b:ab.I=true):tm ab (vW ab) (ra ab) 2000 where
 t1:=(runs h b).t1
 s7:=(runs h b).s7
 s1:=⟨(runs h b).s1,0,rfl⟩
 g1:=λT a=>(runs h b).g1 T a.1
 cf:=λT c a e=>⟨(runs h b).cf T c a.1 e,a.2.choose+1,A7 a.2.choose_spec e⟩
 s2:=λT a e=>⟨(runs h b).s2 T a.1 e,T,a.2.choose,0,a.2.choose_spec,e,rfl⟩
 g2:=λT a=>(runs h b).g2 T a.1
 fR:=λT c a e=>by
  obtain⟨d,f,k,j,g,i,l⟩:=a;exact⟨(runs h b).fR T c d e,f,k,j+1,g,i,A7 l e⟩
 yL:=λT a=>(runs h b).yL T a.1
theorem lq.s{ab:aI}{a:hE}(h:lq ab a):p0 ab (mo ab.nM (eU ab)) (lh ab.nM (eU ab)) a:=by
 cases h with
 | inf T a b c d=>exact .inf T a b.1 c d
 | qW T c a b d=>exact .qW T c a.1 b d
 | opt T a b=>exact .opt T a.1 b
theorem AJ{P:bu}{T:bd}(h:kv P T=none):hr P T=none:=by unfold hr;rw[h]
theorem AK{P:bu}{T:bd}{a:Nat}(h:kv P T=some a)(b:kM P T a (off P T.v (T.rows a))=none):hr P T=none:=by unfold hr;grind
theorem wX{P:bu}{c:Nat->Rat}{T:bd}(h:enters P c T=none):gk P c T=none:=by unfold gk;rw[h]
theorem wY{P:bu}{c:Nat->Rat}{T:bd}{k:Nat}(h:enters P c T=some k)(a:(dn P T k (hp P c T k) P.m).Y=none):gk P c T=none:=by unfold gk;grind
theorem ra.one{ab:aI}{T a:bd}(h:ra ab T)(b:ra ab a)(e:gk ab.nM ab.cs T=none)(c:gk ab.nM ab.cs a=none):T=a:=by
 obtain⟨_,_,_,_,d,f,g⟩:=h;obtain⟨_,_,_,_,i,j,k⟩:=b;obtain rfl:=uv d i (AJ f) (AJ j);exact uv g k e c
theorem vW.no{ab:aI}{T b:bd}{a:Nat}(h:vW ab T)(c:kv ab.nM T=some a)(d:kM ab.nM T a (off ab.nM T.v (T.rows a))=none)(e:ra ab b):False:=by
 obtain⟨_,_,a⟩:=h;obtain⟨_,_,_,_,f,g,_⟩:=e;obtain rfl:=uv a f (AK c d) (AJ g);grind
theorem lq.uniq{ab:aI}{a b:hE}(h:lq ab a)(g:lq ab b):a=b:=by
 cases h with
 | inf _ _ a b c=>
   cases g with
   | inf _ _ d e f=>
     obtain⟨_,_,g⟩:=a;obtain⟨_,_,h⟩:=d;obtain rfl:=uv g h (AK b c) (AK e f);grind
   | qW _ _ d _ _=>exact(a.no b c d).elim
   | opt _ d _=>exact(a.no b c d).elim
 | qW _ _ a b c=>
   cases g with
   | inf _ _ d e f=>exact(d.no e f a).elim
   | qW _ _ d e f=>
     obtain rfl:=a.one d (wY b c) (wY e f);grind
   | opt _ d e=>
     obtain rfl:=a.one d (wY b c) (wX e);grind
 | opt _ a b=>
   cases g with
   | inf _ _ c d e=>exact(c.no d e a).elim
   | qW _ _ c d e=>
     obtain rfl:=a.one c (wX b) (wY d e);grind
   | opt _ c d=>
     obtain rfl:=a.one c (wX b) (wX d);rfl
theorem lq.len{ab:aI}(h:d' ab)(a:ab.I=true){c:hE}(b:lq ab c)(d:c.st=2):(yM (rB ab c.d false)).length<1000000:=SZ h a b.s d
theorem lq.YC{ab:aI}(h:d' ab)(d:ab.I=true){c:hE}(e:lq ab c)(b:c.st=1):sh ab c.x ab.a.length=true/\zb ab (fY c.x)/\∀s∈c.x,s.length<=10000:=by
 have c:=h.n
 rcases e.s with⟨T,a,uq,hw,HZ⟩ | ⟨T,af,uq,he,HY⟩ | ⟨T,uq,he⟩
 ·cases b
 ·cases b
 ·have a:∀j,j<ab.a.length->cu la (T.v j):=λj b=>vN (uq.1.Gt h (by omega));have c:kW ab T=(List.range ab.a.length).map λj=>cZ (T.v j):=rfl;exact⟨c▸Yw d a,(th.fits d uq.1.inv uq.2).congr λj b=>R8 b (a j b),c▸(ZP (by omega) a).all⟩
structure Ai where
 af:Int
 at':List UInt8
 l:Int
 r:Int
 d:List (List UInt8)
def VI:Ai:=⟨-1,[],0,0,[]⟩
structure n6 where
 todo:List (Nat×List dy)
 tree:List Ai
 qc:hE
 val:Option Rat
def wQ:dy:=⟨[],[],[],[],false⟩
def Bx(a:List dy)(x:List (List UInt8)):Option Nat:=(List.range a.length).find? λi=>(a.getD i wQ).int&&decide ((fY x i).den≠1)
open Classical in
noncomputable def Ak(ab:aI):hE:=if h:∃a,lq ab a then h.choose else⟨0,[],[],[],[]⟩
theorem VL{ab:aI}{a:hE}(h:lq ab a):Ak ab=a:=by
 have b:∃a,lq ab a:=⟨a,h⟩;unfold Ak;rw[dif_pos b];exact lq.uniq b.choose_spec h
def n6.r1(s:n6)(cs:List dy):n6:={s with tree:=s.tree++[VI],todo:=s.todo++[(s.tree.length,cs)]}
def VA(cs:List dy)(i:Nat)(t:List UInt8):List dy:=cs.set i {cs.getD i wQ with low:=t}
def Sr(cs:List dy)(i:Nat)(t:List UInt8):List dy:=cs.set i {cs.getD i wQ with up:=t}
def n6.branch(s:n6)(k:Nat)(cs:List dy)(i:Nat)(v:Rat):n6:=
 {((s.r1 (Sr cs i (cZ (v.floor:Rat)))).r1 (VA cs i (cZ ((v.floor:Rat)+1)))) with tree:=((s.tree++[VI])++[VI]).set k ⟨i,cZ (v.floor:Rat),s.tree.length,s.tree.length+1,[]⟩}
def n6.uz(s:n6)(k:Nat)(d:List (List UInt8)):n6:={s with tree:=s.tree.set k {s.tree.getD k VI with d:=d}}
def VH(v:Option Rat)(w:Rat):Bool:=match v with
 | some u=>decide (u<=w)
 | none=>false
noncomputable def n6.look(l:aI)(s:n6)(k:Nat)(cs:List dy):n6:=
 if(⟨cs,l.rows⟩:aI).I=true then
  if(Ak ⟨cs,l.rows⟩).st=1 then
   if VH s.val (rd (Ak ⟨cs,l.rows⟩).val)=true then s.uz k (Ak ⟨cs,l.rows⟩).d
   else match Bx l.a (Ak ⟨cs,l.rows⟩).x with
    | none=>{s.uz k (Ak ⟨cs,l.rows⟩).d with val:=some (rd (Ak ⟨cs,l.rows⟩).val),qc:=⟨1,(Ak ⟨cs,l.rows⟩).val,(Ak ⟨cs,l.rows⟩).x,[],[]⟩}
    | some i=>(s.uz k (Ak ⟨cs,l.rows⟩).d).branch k cs i (fY (Ak ⟨cs,l.rows⟩).x i)
  else s.uz k (Ak ⟨cs,l.rows⟩).d
 else s
def Bk(deep:Bool)(n:Nat):Nat:=if deep then n-1 else 0
def n6.del(s:n6)(k:Nat):n6:={s with todo:=s.todo.eraseIdx k}
inductive Ac(l:aI)(deep:Bool)(m:Nat):n6->n6->Bool->Prop
 | done (s:n6):s.todo=[]->Ac l deep m s s (decide (s.tree.length<=m))
 | Bq (s:n6):s.todo≠[]->m<s.tree.length->Ac l deep m s s false
 | step (s YJ:n6) (b:Bool) (x:Nat×List dy):s.todo[Bk deep s.todo.length]? = some x->s.tree.length<=m->Ac l deep m ((s.del (Bk deep s.todo.length)).look l x.1 x.2) YJ b->Ac l deep m s YJ b
theorem Ac.Zo{l:aI}{deep:Bool}{m:Nat}{s a b:n6}{x y:Bool}(h:Ac l deep m s a x):Ac l deep m s b y->a=b/\x=y:=by
 induction h with
 | done s h=>
   intro g
   cases g with
   | done _ _=>grind
   | Bq _ _ _=>grind
   | step _ _ _ x _=>grind
 | Bq s h _=>
   intro g
   cases g with
   | done _ g=>grind
   | Bq _ _ _=>grind
   | step _ _ _ x _ g=>omega
 | step s _ _ x _ _ _ ih=>
   intro g
   cases g with
   | done _ g=>grind
   | Bq _ _ g=>omega
   | step _ _ _ y _ _ _=>
     grind
theorem Ac.more{l:aI}{deep:Bool}{m n:Nat}{s a:n6}(b:m<=n){x:Bool}(h:Ac l deep m s a x):x=true->Ac l deep n s a true:=by
 induction h with
 | done s h=>
   intro e;have:s.tree.length<=m:=by simpa using e
   have a:=Ac.done (l:=l) (deep:=deep) (m:=n) s h;grind
 | Bq s h _=>grind
 | step s a _ x b _ _ ih=>
   intro e;exact .step s a true x b (by omega) (ih e)
def wR:Rat:=(10:Rat)^20
def Bl(s:List UInt8):Prop:=s≠[]/\s.length<=30/\-wR<=rd s/\rd s<=wR
structure Bj(l:aI)(cs:List dy):Prop where
 len:cs.length=l.a.length
 c:∀i,i<cs.length->(cs.getD i wQ).cost=(l.af i).cost/\(cs.getD i wQ).int=(l.af i).int/\((l.af i).int=false->(cs.getD i wQ).low=(l.af i).low/\(cs.getD i wQ).up=(l.af i).up)/\((l.af i).int=true->Bl (cs.getD i wQ).low/\Bl (cs.getD i wQ).up)
theorem Zs{α:Type}{cs:List α}{c d:α}(h:c∈cs):∃i,i<cs.length/\cs.getD i d=c:=by
 obtain⟨i,a,rfl⟩:=u5 h;exact⟨i,a,by grind⟩
theorem Bj.XG{l:aI}(g':d' l){cs:List dy}(h:Bj l cs):d' ⟨cs,l.rows⟩:=by
 refine⟨by show cs.length<=6;rw[h.len];exact g'.n,g'.m,λ_ b=>?_,g'.r⟩;obtain⟨i,a,rfl⟩:=Zs (d:=wQ) b;obtain⟨b,_,_,c⟩:=h.c i a;have e:=g'.c _ (eB (aI.jv (ab:=l) (i:=i) (by rw[<-h.len];exact a)));rw[b]
 cases f:(l.af i).int with
 | false=>grind
 | true=>obtain⟨a,b⟩:=c f;exact⟨a.2.1,b.2.1,e.2.2⟩
theorem Zm(k:Nat):∀n,n<10^(k+1)->(Lib.decDigits n).length<=k+1:=by
 induction k with
 | zero=>intro n h;rw[Lib.decDigits_one (by simpa using h)];grind
 | succ k ih=>
   intro n _;by_cases a:n<10
   ·grind
   ·rw[Lib.decDigits,dif_neg a];grind
theorem WU{z:Int}(ez:z.natAbs<=10^20):rd (cZ (z:Rat))=z:=by
 have a:cu la (z:Rat):=by
  refine⟨?_,?_⟩
  ·rw[Rat.num_intCast];exact aY ez (by rw[<-gv];exact vu)
  ·rw[Rat.den_intCast];exact Tn 1900
 exact a.rd
theorem Ys{z:Int}(ez:z.natAbs<=10^20):(cZ (z:Rat)).length<=30:=by
 have a:=Zm 20 z.natAbs (by omega);unfold cZ;rw[Rat.num_intCast,Rat.den_intCast];grind
theorem ZL(q:Rat):cZ q≠[]:=by
 have:=wU q.num.natAbs;unfold cZ;simp_all
theorem WT{z:Int}(a:-wR<=(z:Rat))(b:(z:Rat)<=wR):z.natAbs<=10^20:=by
 have e:wR=((10^20:Int):Rat):=by unfold wR;decide +kernel
 rw[e]at a b;have b:z<=10^20:=Rat.intCast_le_intCast.1 b;have a:-(10^20)<=z:=by
  have:((-(10^20):Int):Rat)<=(z:Rat):=by simpa using a
  exact Rat.intCast_le_intCast.1 this
 omega
theorem Bl.int{z:Int}(a:-wR<=(z:Rat))(b:(z:Rat)<=wR):Bl (cZ (z:Rat)):=by
 have h:=WT a b;exact⟨ZL _,Ys h,by rw[WU h];exact a,by rw[WU h];exact b⟩
theorem Zt{α:Type}{cs:List α}{i j:Nat}{c d:α}(aJ:i<cs.length):(cs.set i c).getD j d=if j=i then c else cs.getD j d:=by
 grind
theorem Bj.up{l:aI}{cs:List dy}(h:Bj l cs){i:Nat}(aJ:i<cs.length)(a:(l.af i).int=true){t:List UInt8}(a:Bl t):Bj l (Sr cs i t):=by
 refine⟨by simp[Sr,h.len],λj a=>?_⟩;have a:j<cs.length:=by simpa [Sr]using a
 have b:=h.c j a;unfold Sr;grind
theorem Bj.low{l:aI}{cs:List dy}(h:Bj l cs){i:Nat}(aJ:i<cs.length)(a:(l.af i).int=true){t:List UInt8}(a:Bl t):Bj l (VA cs i t):=by
 refine⟨by simp[VA,h.len],λj a=>?_⟩;have a:j<cs.length:=by simpa [VA]using a
 have b:=h.c j a;unfold VA;grind
theorem Wc:wR=((10^20:Int):Rat):=by rfl
theorem Wd:-wR=((-(10^20):Int):Rat):=by rfl
theorem Zq{v:Rat}(a:-wR<=v)(b:v<=wR):Bl (cZ (v.floor:Rat)):=by
 refine Bl.int ?_ (Rat.le_trans (Rat.floor_le v) b);rw[Wd]at a|-;exact Rat.intCast_le_intCast.2 (Rat.le_floor_iff.2 a)
theorem Yq{v:Rat}(h:v.den≠1):((v.floor:Int):Rat)<v:=by
 refine Rat.lt_of_le_of_ne (Rat.floor_le v) λe=>h ?_;rw[<-e,Rat.den_intCast]
theorem Zh{v:Rat}(a:-wR<=v)(b:v<=wR)(c:v.den≠1):Bl (cZ ((v.floor:Rat)+1)):=by
 have e:((v.floor:Rat)+1)=((v.floor+1:Int):Rat):=by simp
 rw[e];refine Bl.int ?_ ?_
 ·rw[Wd]at a|-;have:=Rat.le_floor_iff.2 a;exact Rat.intCast_le_intCast.2 (by omega)
 ·rw[Wc]at b|-;have a:((v.floor:Int):Rat)<((10^20:Int):Rat):=(by have:=Yq c;grind);have a:=Rat.intCast_lt_intCast.1 a;exact Rat.intCast_le_intCast.2 (by omega)
structure VG(l:aI):Prop where
 s:d' l
 c:∀i,i<l.a.length->(l.af i).int=true->Bl (l.af i).low/\Bl (l.af i).up
theorem Yl{l:aI}{i:Nat}:l.a.getD i wQ=l.af i:=rfl
theorem VG.node{l:aI}(h:VG l):Bj l l.a:=⟨rfl,λi a=>⟨rfl,rfl,λ_=>⟨rfl,rfl⟩,λe=>h.c i a e⟩⟩
structure Bm(l:aI)(s:n6):Prop where
 jj:∀x∈s.todo,x.1<s.tree.length/\Bj l x.2
theorem Bm.r1{l:aI}{s:n6}(h:Bm l s){cs:List dy}(b:Bj l cs):Bm l (s.r1 cs):=by
 refine⟨λx a=>?_⟩;simp only[n6.r1,l2,lY]at a;simp only[n6.r1,ot,List.length_singleton]
 rcases a with a | rfl
 ·exact⟨by have:=(h.jj x a).1;omega,(h.jj x a).2⟩
 grind
theorem Bm.uz{l:aI}{s:n6}(h:Bm l s){k:Nat}{d:List (List UInt8)}:Bm l (s.uz k d):=⟨λx a=>by
 have:=h.jj x a;simpa [n6.uz]using this⟩
theorem Bm.del{l:aI}{s:n6}(h:Bm l s){k:Nat}:Bm l (s.del k):=⟨λx a=>h.jj x (List.mem_of_mem_eraseIdx a)⟩
theorem Yi{a:List dy}{x:List (List UInt8)}{i:Nat}(h:Bx a x=some i):i<a.length/\(a.getD i wQ).int=true/\(fY x i).den≠1:=by
 obtain⟨_,_,_⟩:=List.find?_range_eq_some.1 h;grind
theorem Bm.branch{l:aI}{s:n6}(h:Bm l s){k i:Nat}{cs:List dy}{v:Rat}(a:Bj l cs)(aJ:i<cs.length)(b:(l.af i).int=true)(c:-wR<=v)(d:v<=wR)(e:v.den≠1):Bm l (s.branch k cs i v):=by
 have g:=(h.r1 (a.up aJ b (Zq c d))).r1 (a.low aJ b (Zh c d e));refine⟨λx a=>?_⟩;have:=g.jj x a;simpa [n6.branch,n6.r1]using this
theorem YN{l:aI}{cs:List dy}(g':d' l)(b:Bj l cs)(c:(⟨cs,l.rows⟩:aI).I=true){a:hE}(d:lq ⟨cs,l.rows⟩ a)(e:a.st=1){i:Nat}(aJ:i<cs.length)(f:(l.af i).int=true):-wR<=fY a.x i/\fY a.x i<=wR:=by
 obtain⟨_,a,_⟩:=d.YC (b.XG g') c e;obtain⟨c,d⟩:=a.c i aJ;obtain⟨_,_,_,e⟩:=b.c i aJ;obtain⟨a,b⟩:=e f;exact⟨Rat.le_trans a.2.2.1 (c a.1),Rat.le_trans (d b.1) b.2.2.2⟩
end Go.Dam.C
namespace Go.Dam.C
open Go Go.Dam
def uh(_:Perm)(args:List Value)(H:ad):Option (Value×ad):=match args with
 | []=>bif j0 H then some (.bool true,H) else none
 | _=>none
structure oU(X:ar):Prop extends ep X where
 begun:X.eS F.BD=some uh
 gI:Has X F.gI C.gI
 mG:Has X F.mG C.mG
variable{X:ar}{pm:Perm}{H aa bL aj:ad}{n:Nat}
theorem M6(a:oU X)(b:Tab H):Call X pm F.BD [] H λr aa=>aa=H/\r=.bool true:=by
 refine Call.over a.begun (v:=.bool true) (aa:=H) ?_ ⟨rfl,rfl⟩;simp only[uh,kL b];rfl
theorem pX(a:oU X){l:List UInt8}{n:Nat} (_:n<=1000:=by omega):Call X pm F.gI [aA l,.int .i64 (n:Int)] H λr aa=>aa=H/\r=aA (l.take n):=by
 refine Call.has a.gI rfl ?_;by_cases h:n<l.length
 ·simp[h,show n<=l.length by omega,]
 ·simp[h,];rw[mZ (by omega)]
end Go.Dam.C
namespace Go.Dam.C
open Go Go.Dam
variable{X:ar}{pm:Perm}{H aa bL aj:ad}{n:Nat}
def fM(ak:Nat):Value->Prop
 | .slice (some a) n _=>ak<=a.block/\0<n
 | _=>True
theorem c8.put{v:Value}{m w ak b:Nat}{P a:Nat->List Value->Prop}(h:c8 H v m w P)(c:fM ak v)(q:b<ak)(x:bk)(e:∀i cs,i<m->P i cs->a i cs):c8 (H.put b x) v m w a:=by
 obtain⟨f,g,rfl,j⟩:=h.ex;refine⟨f,g,rfl,λi b=>?_⟩;obtain⟨d,k,y,l,cs,rfl,m,n,o,p⟩:=j i b;have c:ak<=d:=c.1;exact⟨d,k,y,l,cs,rfl,by rw[a7];exact m,n,o,e i cs b p⟩
def mu(H:ad)(ak:Nat)(v:Value)(l:List bQ):Prop:=c8 H v l.length 5 λi b=>∃r a,l[i]? = some r/\b=r.cells a/\gB H a r.j/\fM ak a
theorem mu.rows{ak:Nat}{v:Value}{l:List bQ}(h:mu H ak v l):iM H v l:=c8.imp h (λ_ _ e=>e) λ_ _ _ ⟨r,a,b,c,d,_⟩=>⟨r,a,b,c,d⟩
theorem mu.ext{ak:Nat}{v:Value}{l:List bQ}(h:mu H ak v l)(e:Ext H aa):mu aa ak v l:=c8.imp h e λ_ _ _ ⟨r,a,b,c,d,f⟩=>⟨r,a,b,c,d.ext e,f⟩
theorem mu.put{ak b:Nat}{v:Value}{l:List bQ}(h:mu H ak v l)(c:fM ak v)(a:b<ak)(x:bk):mu (H.put b x) ak v l:=
 c8.put h c a x λ_ _ _ ⟨r,c,d,e,f,b⟩=>⟨r,c,d,e,c8.put f b a x λ_ _ _ h=>h,b⟩
def hC(H:ad)(ak:Nat)(r:Value)(ab:aI):Prop:=∃a b,r=.agg #[a,b]/\gC H a ab.a/\mu H ak b ab.rows/\fM ak a/\fM ak b
theorem hC.ab{ak:Nat}{r:Value}{ab:aI}(h:hC H ak r ab):iL H r ab:=by
 obtain⟨a,b,rfl,c,d,_⟩:=h;exact⟨a,b,rfl,c,d.rows⟩
theorem hC.ext{ak:Nat}{r:Value}{ab:aI}(h:hC H ak r ab)(e:Ext H aa):hC aa ak r ab:=by
 obtain⟨a,b,rfl,c,d,f⟩:=h;exact⟨a,b,rfl,c.ext e,d.ext e,f⟩
theorem hC.put{ak b:Nat}{r:Value}{ab:aI}(h:hC H ak r ab)(a:b<ak)(x:bk):hC (H.put b x) ak r ab:=by
 obtain⟨d,e,rfl,f,g,b,c⟩:=h;exact⟨d,e,rfl,c8.put f b a x λ_ _ _ h=>h,g.put c a x,b,c⟩
def dy.cut(c:dy):dy:={c with low:=c.low.take 20,up:=c.up.take 20,cost:=c.cost.take 20}
def bQ.cut(r:bQ):bQ:={r with j:=(r.j.take 8).map λc=>{c with v:=c.v.take 20},rhs:=r.rhs.take 30}
def aI.cut(ab:aI):aI:=⟨(ab.a.take 6).map dy.cut,(ab.rows.take 6).map bQ.cut⟩
theorem aI.NL(ab:aI):d' ab.cut:=by
 refine⟨by simp[aI.cut];omega,by simp[aI.cut];omega,λc a=>?_,λr b=>?_⟩
 ·obtain⟨c,_,rfl⟩:=k1.1 a;simp only[dy.cut,k4];omega
 ·obtain⟨r,_,rfl⟩:=k1.1 b;simp only[bQ.cut,k4,pG];refine⟨by omega,by omega,λc a=>?_⟩;obtain⟨c,_,rfl⟩:=k1.1 a;simp only[k4];omega
def eg(H:ad)(v:Value)(m w:Nat)(P:Nat->List Value->Prop):Prop:=∃a b,v=.slice a m b/\m<=b/\(a=none->m=0)/\∀d,a=some d->∃b c a,d=⟨b,c,none⟩/\(H.get b=some (.ro a)∨H.get b=some (.cells a (.n w)))/\c+m*w<=a.length/\∀i,i<m->∃b,bx a (c+i*w) w=some b/\P i b
theorem eg.aP{v:Value}{m w:Nat}{P:Nat->List Value->Prop}(h:eg H v m w P):c8 H v m w P:=by
 obtain⟨b,i,rfl,_,j,k⟩:=h;refine⟨b,i,rfl,λl m=>?_⟩
 cases b with
 | none=>have:=j rfl;omega
 | some _=>
   obtain⟨c,d,e,rfl,a,_,n⟩:=k _ rfl;obtain⟨f,g,h⟩:=n l m
   rcases a with a | a
   ·exact⟨c,d,_,e,f,rfl,a,rfl,g,h⟩
   ·exact⟨c,d,_,e,f,rfl,a,rfl,g,h⟩
theorem eg.imp{v:Value}{m w:Nat}{P a:Nat->List Value->Prop}(h:eg H v m w P)(e:Ext H aa)(b:∀i cs,i<m->P i cs->a i cs):eg aa v m w a:=by
 obtain⟨c,d,rfl,f,g,j⟩:=h;refine⟨c,d,rfl,f,g,λk l=>?_⟩;obtain⟨m,n,o,rfl,p,q,r⟩:=j k l;exact⟨m,n,o,rfl,p.imp (e _ _) (e _ _),q,λi a=>(r i a).imp λcs h=>⟨h.1,b i cs a h.2⟩⟩
def rf(H:ad)(v:Value)(l:List bQ):Prop:=eg H v l.length 5 λi a=>∃r b,l[i]? = some r/\a=r.cells b/\eg H b r.j.length 2 λi a=>∃c,r.j[i]? = some c/\a=c.cells
def mr(H:ad)(v:Value)(ab:aI):Prop:=∃a b,v=.agg #[a,b]/\(eg H a ab.a.length 5 λi a=>∃c,ab.a[i]? = some c/\a=c.cells)/\rf H b ab.rows
theorem rf.ext{v:Value}{l:List bQ}(h:rf H v l)(e:Ext H aa):rf aa v l:=eg.imp h e λ_ _ _ ⟨r,a,b,c,d⟩=>⟨r,a,b,c,d.imp e λ_ _ _ h=>h⟩
theorem mr.ext{v:Value}{ab:aI}(h:mr H v ab)(e:Ext H aa):mr aa v ab:=by
 obtain⟨a,b,rfl,c,d⟩:=h;exact⟨a,b,rfl,c.imp e λ_ _ _ h=>h,d.ext e⟩
theorem mr.ab{v:Value}{ab:aI}(h:mr H v ab):iL H v ab:=by
 obtain⟨a,b,rfl,c,d⟩:=h;exact⟨a,b,rfl,c.aP,c8.imp d.aP (λ_ _ e=>e) λ_ _ _ ⟨r,a,b,c,d⟩=>⟨r,a,b,c,d.aP⟩⟩
def L3(X:ar):Prop:=∀(pm:Perm) (H:ad),bs pm H->∀(v:Value) (a:aI),mr H v a->Call X pm F.mG [v] H λr aa=>K pm H aa/\hC aa H.next r a.cut
theorem pg{row cs:List Value}{o w:Nat}(h:bx row o w=some cs):o+w<=row.length/\cs=(row.drop o).take w:=by
 unfold bx at h;by_cases a:o+w<=row.length
 ·rw[cg,ix a,cond_true]at h;exact⟨a,(jF h).symm⟩
 ·rw[cg,l0 a,cond_false]at h;cases h
theorem pf{row:List Value}{o w:Nat}(h:o+w<=row.length):bx row o w=some ((row.drop o).take w):=by
 unfold bx;rw[cg,ix h,cond_true]
theorem AS{row:List Value}{off w n:Nat}(a:0<n)(h:∀i,i<n->∃cs,bx row (off+i*w) w=some cs):∃l,bx row off (n*w)=some l/\l.length=n*w/\∀i,i<n->bx l (i*w) w=bx row (off+i*w) w:=by
 obtain⟨cs,a⟩:=h (n-1) (by omega);have b:=(pg a).1;have e:(n-1)*w+w=n*w:=by
  rw[<-hS];congr 1;omega
 have a:off+n*w<=row.length:=by omega
 refine⟨_,pf a,by simp;omega,λi a=>?_⟩;have b:i*w+w<=n*w:=by
  rw[<-hS];exact e8 _ a
 rw[pf (show off+i*w+w<=row.length by omega),pf (by simp;omega)];congr 1;rw[List.drop_take,List.take_take,List.drop_drop];congr 1;omega
theorem NG{w cc n ah b:Nat}{fx:List Nat}{l:List Value}(a:0<n)(g':l.all c6=true)(a:1<=w)(c:n<=1000)(d:cc<=200):
 (eN w cc (.slice none 0 0) l n).runT ⟨ah,fx,some b⟩ H=some (.slice (some ⟨b,0,none⟩) n n,H.put b (.cells l (.n w)),[],[b]):=by
 have e:n*cc<=17179869184:=aY (gK c d) (by decide);unfold eN;simp only[g'];simp[Perm.make,Perm.pick,e,a,show ¬n=0 by omega,show n<=17179869184 by omega]
theorem z1{w cc ah b:Nat}{fx:List Nat}{l:List Value}:(eN w cc (.slice none 0 0) l 0).runT ⟨ah,fx,some b⟩ H=some (.slice none 0 0,H,[],[]):=by
 unfold eN;simp
def fp(H:ad)(b n w:Nat)(l:List Value):ad:=if n=0 then H else H.put b (.cells l (.n w))
def iS(b n:Nat):List Nat:=if n=0 then[] else[b]
theorem copyV{w cc n ah b:Nat}{fx:List Nat}{l:List Value}(g':l.all c6=true)(a:1<=w)(c:n<=1000)(d:cc<=200):
 (eN w cc (.slice none 0 0) l n).runT ⟨ah,fx,some b⟩ H=some (aP b n,fp H b n w l,[],iS b n):=by
 by_cases h:n=0
 ·subst h;exact z1
 ·rw[NG (by omega) g' a c d,cO (by omega),fp,aC h,iS,aC h]
theorem o9{b n w c:Nat}{l:List Value} (h:c≠b:=by omega):(fp H b n w l).get c=H.get c:=by
 unfold fp;split
 ·rfl
 ·rw[a7 (h:=h)]
@[simp] theorem tY{b n w:Nat}{l:List Value}:(fp H b n w l).next=H.next:=by unfold fp;split<;>rfl
theorem rF{b n w:Nat}{l:List Value}(h:0<n):(fp H b n w l).get b=some (.cells l (.n w)):=by
 unfold fp;rw[aC (by omega),b1]
theorem wK{b n x:Nat}(h:b≠x):du (iS b n) [x]=true/\du [x] (iS b n)=true:=by
 unfold iS;split
 ·exact⟨rfl,rfl⟩
 ·exact⟨fq h,fq (Ne.symm h)⟩
abbrev tyU0:Nat:=T.PZ
abbrev tyU1:Nat:=T.P0
abbrev tyU2:Nat:=T.P1
theorem I5(m:Nat):cH (some (Value.int .i64 (if 6<m then 6 else(m:Int))))=some (min m 6):=by
 by_cases h:6<m
 ·rw[aT h,Nat.min_eq_right (by omega)];rfl
 ·rw[aC h,pB (by omega)];simp[cH]
theorem QC(m:Nat):cH (some (Value.int .i64 (if 8<m then 8 else(m:Int))))=some (min m 8):=by
 by_cases h:8<m
 ·rw[aT h,Nat.min_eq_right (by omega)];rfl
 ·rw[aC h,pB (by omega)];simp[cH]
theorem zY{m w cap cc k:Nat}{d:Option Addr}{P:Nat->List Value->Prop}(h:eg H (.slice d m cap) m w P)(r:k<=m)(g:1<=w)(j:k<=1000)(o:cc<=200)(s:∀i cs,P i cs->cs.all c6=true):
 ∃f l,(∀x∈f,∃y,H.get x=some y)/\(0<k->l.length=k*w/\∀i,i<k->∃cs,bx l (i*w) w=some cs/\P i cs)/\
  ∀aa,Ext H aa->∀ah b fx,(h7 w d 0 k cap cap).runT ⟨ah,fx,some b⟩ aa=some (.slice d k cap,aa,f,[])/\
   (ei w (.slice d k cap) λnew n=>eN w cc (.slice none 0 0) new n).runT ⟨ah,fx,some b⟩ aa=some (aP b k,fp aa b k w l,f,iS b k):=by
 obtain⟨_,_,e,_,t,u⟩:=h;cases e
 cases d with
 | none=>
   obtain rfl:m=0:=t rfl;obtain rfl:k=0:=by omega
   refine⟨[],[],(by simp),λh=>absurd h (Nat.lt_irrefl 0),λaa _ ah b fx=>⟨by unfold h7;simp,?_⟩⟩;unfold ei;exact z1
 | some _=>
   obtain⟨v,off,row,rfl,a,_,f⟩:=u _ rfl;have d:k*w<=m*w:=e8 _ r;have q:∀i,i<k->∃cs,bx ((row.drop off).take (k*w)) (i*w) w=some cs/\P i cs:=λi d=>by
    obtain⟨cs,b,m⟩:=f i (by omega);obtain⟨l,p,_,r⟩:=AS (n:=k) (row:=row) (off:=off) (w:=w) (by omega) (λi d=>(f i (by omega)).imp λ_ h=>h.1);have:=(pg p).2;exact⟨cs,by rw[<-this,r i d,b],m⟩
   refine⟨[v],(row.drop off).take (k*w),λx c=>by rw[lY.1 c];exact a.elim (λh=>⟨_,h⟩) λh=>⟨_,h⟩,λ_=>⟨by simp;omega,q⟩,λaa c ah b fx=>⟨?_,?_⟩⟩
   ·unfold h7
    rcases a with a | a
    ·simp[show k<=cap by omega,c _ _ a]
    ·simp[show k<=cap by omega,c _ _ a]
   ·have b:((row.drop off).take (k*w)).all c6=true:=by
     rw[eD];intro _ i;obtain⟨p,h,rfl⟩:=u5 i;have d:p<k*w:=by
      have:=h;simp at this;omega
     have f:p/w<k:=ox (by rw[dW];exact d);obtain⟨cs,d,i⟩:=q (p/w) f;have f:=(pg d).2;have d:=eD.1 (s _ _ i);have i:p%w<w:=kY _ (by omega);have e:p/w*w+p%w=p:=by rw[dW];exact qM p w
     refine d _ ?_;rw[f];refine List.mem_iff_getElem?.2 ⟨p%w,?_⟩;rw[kZ i,ki,e];exact eu h
    unfold ei
    rcases a with a | a
    ·simp only[aQ.runT,c _ _ a,rowOf];rw[pf (by show off+k*w<=row.length;omega)];simp only;rw[copyV b g j o]
    ·simp only[aQ.runT,c _ _ a,rowOf];rw[pf (by show off+k*w<=row.length;omega)];simp only;rw[copyV b g j o]
def c0(L:List Value)(w n:Nat)(f:Nat->List Value):Prop:=L.length=n*w/\∀j,j<n->(f j).length=w/\∀k,k<w->L[j*w+k]? = (f j)[k]?
theorem c0.of{L:List Value}{w n:Nat}{f:Nat->List Value}(g':L.length=n*w)(h:∀j,j<n->bx L (j*w) w=some (f j)):c0 L w n f:=by
 refine⟨g',λj b=>?_⟩;obtain⟨_,a⟩:=pg (h j b);refine⟨by rw[a];simp;omega,λ_ b=>?_⟩;rw[a,kZ b,ki]
theorem c0.lt{L:List Value}{w n j k:Nat}{f:Nat->List Value}(h:c0 L w n f)(a:j<n)(b:k<w):j*w+k<L.length:=by
 have b:j*w+w<=n*w:=by rw[<-hS];exact e8 _ a
 rw[h.1];omega
theorem c0.row{L:List Value}{w n j:Nat}{f:Nat->List Value}(h:c0 L w n f)(a:j<n):bx L (j*w) w=some (f j):=by
 have b:j*w+w<=n*w:=by rw[<-hS];exact e8 _ a
 rw[pf (by rw[h.1];exact b)];congr 1;apply nb;intro k;by_cases b:k<w
 ·rw[kZ b,ki];exact(h.2 j a).2 k b
 ·rw[gr (by simp;omega),gr (by rw[(h.2 j a).1];omega)]
theorem c0.set{L:List Value}{w n j k:Nat}{f lC:Nat->List Value}(h:c0 L w n f)(l:j<n)(b:k<w)(v:Value)(c:lC j=(f j).set k v)(d:∀i,i<n->i≠j->lC i=f i):c0 (L.set (j*w+k) v) w n lC:=by
 refine⟨by simp[h.1],λi a=>⟨?_,λp f=>?_⟩⟩
 ·by_cases e:i=j
  ·subst e;rw[c];simp;exact(h.2 i a).1
  ·rw[d i a e];exact(h.2 i a).1
 ·by_cases e:i=j
  ·subst e;rw[c];by_cases g:p=k
   ·subst g;rw[uX (h.lt l b),uX (by rw[(h.2 i a).1];exact b)]
   ·rw[sz (by omega),sz (Ne.symm g)];exact(h.2 i a).2 p f
  ·rw[d i a e,sz]
   ·exact(h.2 i a).2 p f
   ·rcases Nat.lt_or_gt_of_ne e with e | e
    ·have:i*w+w<=j*w:=by rw[<-hS];exact e8 _ e
     omega
    ·have:j*w+w<=i*w:=by rw[<-hS];exact e8 _ e
     omega
theorem c0.ex{l:List Value}{w n:Nat}{P:Nat->List Value->Prop}(g':l.length=n*w)(h:∀i,i<n->∃cs,bx l (i*w) w=some cs/\P i cs):∃f,c0 l w n f/\∀i,i<n->P i (f i):=by
 refine⟨λi=>(bx l (i*w) w).getD [],c0.of g' λj a=>?_,λj a=>?_⟩
 ·obtain⟨cs,e,_⟩:=h j a;rw[e];rfl
 ·obtain⟨cs,e,p⟩:=h j a;show P j ((bx l (j*w) w).getD []);rw[e];exact p
end Go.Dam.C
namespace Go.Dam.C
open Go Go.Dam
variable{X:ar}{pm:Perm}{H aa bL aj:ad}{n:Nat}
theorem aF.fp(u:aF pm n H aa){b k w:Nat}{l:List Value}(h:n<=b)(AW:aa.get b=none)(a:b<aa.next):aF pm n H (C.fp aa b k w l):=by
 unfold C.fp;split
 ·exact u
 ·exact aF.fill u h AW a _
theorem jU{a b:List Nat}{n:Nat}(h:∀x∈a,x<n)(c:∀x∈b,n<=x):du a b=true/\du b a=true:=by
 unfold du;simp only[eD,iq,List.contains_eq_mem,decide_eq_false_iff_not];exact⟨λx a b=>by have:=h x a;have:=c x b;omega,λx a b=>by have:=h x b;have:=c x a;omega⟩
theorem rG{b n x:Nat}(h:x∈iS b n):x=b:=by
 unfold iS at h;split at h
 ·cases h
 ·simpa using h
structure eo(pm:Perm)(aj H:ad)(c7 cb cP cA c3 ct:Nat)(eO cB:Nat->List Value):Prop where
 k:K pm aj H
 r:H.get c7=some (.cells [.slice none 0 0,.slice none 0 0] (.t tyU1))
 x:H.get cb=some (.cells [aP cP c3,aP cA ct] (.t tyU2))
 c:0<c3->∃L,H.get cP=some (.cells L (.n 5))/\c0 L 5 c3 eO
 w:0<ct->∃L,H.get cA=some (.cells L (.n 5))/\c0 L 5 ct cB
structure oV(aj:ad)(c7 cb cP cA:Nat):Prop where
 bX:aj.next<=c7
 cv:c7<cP
 cF:cP<cA
 dw:cA<cb
variable{c7 cb cP cA c3 ct:Nat}{eO cB:Nat->List Value}
theorem eo.up(s:eo pm aj H c7 cb cP cA c3 ct eO cB)(u:K pm H aa):eo pm aj aa c7 cb cP cA c3 ct eO cB where
 k:=K.trans s.k u
 r:=u.some s.k.h s.r
 x:=u.some s.k.h s.x
 c:=λh=>(s.c h).imp λ_ h=>⟨u.some s.k.h h.1,h.2⟩
 w:=λh=>(s.w h).imp λ_ h=>⟨u.some s.k.h h.1,h.2⟩
theorem eo.put(s:eo pm aj H c7 cb cP cA c3 ct eO cB)(q:oV aj c7 cb cP cA){b:Nat}{y x:bk}(a:cb<b)(AW:H.get b=some y)(a:∀o,y≠.cr o):eo pm aj (H.put b x) c7 cb cP cA c3 ct eO cB where
 k:=aF.put s.k (by have:=q.bX;have:=q.cv;have:=q.cF;have:=q.dw;omega) AW a _
 r:=by rw[a7 (h:=by have:=q.bX;have:=q.cv;have:=q.cF;have:=q.dw;omega)];exact s.r
 x:=by rw[a7];exact s.x
 c:=λh=>(s.c h).imp λ_ h=>⟨by rw[a7 (h:=by have:=q.cF;have:=q.dw;omega)];exact h.1,h.2⟩
 w:=λh=>(s.w h).imp λ_ h=>⟨by rw[a7 (h:=by have:=q.dw;omega)];exact h.1,h.2⟩
theorem eo.row(s:eo pm aj H c7 cb cP cA c3 ct eO cB)(q:oV aj c7 cb cP cA){a:Nat->List Value}{i k:Nat}{v:Value}(aJ:i<ct)(d:k<5)(e:a i=(cB i).set k v)(f:∀j,j<ct->j≠i->a j=cB j){L:List Value}(b:H.get cA=some (.cells L (.n 5))):
 eo pm aj (H.put cA (.cells (L.set (i*5+k) v) (.n 5))) c7 cb cP cA c3 ct eO a where
 k:=aF.put s.k (by have:=q.bX;have:=q.cv;have:=q.cF;have:=q.dw;omega) b (by simp) _
 r:=by rw[a7 (h:=by have:=q.bX;have:=q.cv;have:=q.cF;have:=q.dw;omega)];exact s.r
 x:=by rw[a7 (h:=by have:=q.dw;omega)];exact s.x
 c:=λh=>(s.c h).imp λ_ h=>⟨by rw[a7 (h:=by have:=q.cF;have:=q.dw;omega)];exact h.1,h.2⟩
 w:=λh=>by
  obtain⟨_,c,g⟩:=s.w h;rw[b]at c;cases c;exact⟨_,b1,g.set aJ d v e f⟩
theorem eo.af(s:eo pm aj H c7 cb cP cA c3 ct eO cB)(q:oV aj c7 cb cP cA){a:Nat->List Value}{i k:Nat}{v:Value}(aJ:i<c3)(d:k<5)(e:a i=(eO i).set k v)(f:∀j,j<c3->j≠i->a j=eO j){L:List Value}(b:H.get cP=some (.cells L (.n 5))):
 eo pm aj (H.put cP (.cells (L.set (i*5+k) v) (.n 5))) c7 cb cP cA c3 ct a cB where
 k:=aF.put s.k (by have:=q.bX;have:=q.cv;have:=q.cF;have:=q.dw;omega) b (by simp) _
 r:=by rw[a7 (h:=by have:=q.bX;have:=q.cv;have:=q.cF;have:=q.dw;omega)];exact s.r
 x:=by rw[a7 (h:=by have:=q.cF;have:=q.dw;omega)];exact s.x
 c:=λh=>by
  obtain⟨_,c,g⟩:=s.c h;rw[b]at c;cases c;exact⟨_,b1,g.set aJ d v e f⟩
 w:=λh=>(s.w h).imp λ_ h=>⟨by rw[a7 (h:=by have:=q.cF;have:=q.dw;omega)];exact h.1,h.2⟩
def wM(c:dq):dq:={c with v:=c.v.take 20}
def wN:dq:=⟨0,[]⟩
theorem L8(hX:oU X)(Q:bs pm aj)(q:oV aj c7 cb cP cA)(s:eo pm aj H c7 cb cP cA c3 ct eO cB)(aW:ct<=6){i:Nat}(aJ:i<ct){r:bQ}{bP:Value}(hr:cB i=r.cells bP)
 (hA:eg aj bP r.j.length 2 λi cs=>∃c,r.j[i]? = some c/\cs=c.cells) {ad:b5}
 (hR:∀aN aa R,Sub [(27,.int .i64 (i:Int)),(26,.int .i64 (ct:Int)),(2,.pointer (some ⟨c7,0,none⟩)),(3,.pointer (some ⟨cb,0,none⟩))] aN->eo pm aj aa c7 cb cP cA c3 ct eO (λj=>if j=i then r.cut.cells R else cB j)->gB aa R r.cut.j->fM H.next R->(∀b y,b≠cA->H.get b=some y->aa.get b=some y)->ad .normal aN aa):
 wp X pm (.code (.seq (.bj [m 29 27,m 4 29]) C.Bd)) [(28,.bool true),(27,.int .i64 (i:Int)),(26,.int .i64 (ct:Int)),(2,.pointer (some ⟨c7,0,none⟩)),(3,.pointer (some ⟨cb,0,none⟩))] H [] ad:=by
 have g:=s.k.h;have q1:=q.bX;have q2:=q.cv;have q3:=q.cF;have q4:=q.dw;have l3:=g.lt s.x;obtain⟨L,hL,cL⟩:=s.w (by omega);have S:=s.x;rw[cO (show 0<ct by omega)]at S;have E:L[i*5+2]? = some bP:=by rw[(cL.2 i aJ).2 2 (by decide),hr];rfl
 obtain⟨_,_,rfl,_⟩:=id hA;obtain⟨aB,lf,hf,T,F⟩:=zY (cc:=24) (k:=min r.j.length 8) (hA.imp (s.k.ext Q) λ_ _ _ h=>h) (Nat.min_le_left _ _) (by decide) (by omega) (by decide) (λi cs ⟨c,_,t⟩=>by rw[t];rfl);have ae:∀x∈aB,x<H.next:=λx e=>by obtain⟨y,hy⟩:=hf x e;exact g.lt hy
 obtain⟨d,aC⟩:∃k,k=min r.j.length 8:=⟨_,rfl⟩;have U:=QC r.j.length;rw[<-aC]at F T U;obtain⟨z,u⟩:∃z,z=H.next:=⟨_,rfl⟩;have V:K pm H (H.up 22):=(K.refl g).up 22;have c1:=(F _ (V.ext g) pm.ah (z+17) pm.ok).1;have W:=(F _ (V.ext g) pm.ah (z+18) pm.ok).2;obtain⟨G,v⟩:∃A,A=fp (H.up 22) (z+18) d 2 lf:=⟨_,rfl⟩;have I:K pm H G:=by rw[v];exact aF.fp V (by omega) (by rw[u];exact g.none 18) (by show z+18<H.next+22;omega)
 rw[<-v]at W;have af:∀j,j≠18->G.get (z+j)=none:=λj l=>by rw[v,o9,u];exact g.none j
 have aD:G.next=z+22:=by rw[v,tY,u];rfl
 have ag:=I.some g hL;have aE:=I.some g S;obtain⟨p,w⟩:∃A,A=G.put cA (.cells (L.set (i*5+2) (aP (z+18) d)) (.n 5)):=⟨_,rfl⟩;have J:eo pm aj p c7 cb cP cA c3 ct eO (λj=>if j=i then r.cells (aP (z+18) d) else cB j):=by
  rw[w];exact(s.up I).row q aJ (by decide) (by rw[hr];simp[bQ.cells]) (λj _ h=>by simp[h]) ag
 have aG:∀b i,c6 (aP b i)=true:=λb i=>by unfold aP;split<;>rfl
 have aH:∀b i,(aP b i).cells=#[aP b i]:=λb i=>by unfold aP;split<;>rfl
 have aI:=cL.lt aJ (show 2<5 by decide);have ai:setCells L (i*5+2) [aP (z+18) d]=some (L.set (i*5+2) (aP (z+18) d)):=setCells_one aI;have ak:=λo=>eG (ah:=pm.ah) (ok:=pm.ok) (o:=o) (b:=cA) (by have:=Q.ah;omega);have d1:=(jU (a:=[cb]) (b:=iS (z+18) d) (n:=z) (λx e=>by rw[lY.1 e];omega) (λx e=>by rw[rG e];omega)).2;have l4:cb<z:=by omega
 have l5:cA<z:=by omega
 have al:=λj=>(by rw[u];exact g.none j:(H.up 22).get (z+j)=none);have an:=(by rw[u];exact g.J:(H.up 22).get z=none);simp[-xq];refine cy.of g.ah rfl ?_;rw[<-u];simp[b7,al,an,S,hL,aJ,E,U,c1,W,af,ag, aH,aG,ai,ak,<-w,d1,l4,l5,cj,cd,dM,-ei,-xq];refine⟨⟨λx e=>.inl (.inl (.inl (by have:=ae x e;omega))),λx e=>.inl (.inl (.inl (by have:=ae x e;omega)))⟩,?_⟩;clear U c1 W af aE ai al an;have B:=J.k.h;have ao:=J.x;rw[cO (show 0<ct by omega)]at ao;obtain⟨N,Y,aq⟩:=J.w (by omega);have n2:p.next=z+22:=by rw[w];exact aD
 have e3:N[i*5+3]? = some (aA r.rhs):=by rw[(aq.2 i aJ).2 3 (by decide)];simp[bQ.cells]
 obtain⟨Z,D⟩:∃A,A=(p.up 13).put cA (.cells (N.set (i*5+3) (aA (r.rhs.take 30))) (.n 5)):=⟨_,rfl⟩;have ar:K pm p (p.up 13):=(K.refl B).up 13;have O:eo pm aj Z c7 cb cP cA c3 ct eO (λj=>if j=i then({r with rhs:=r.rhs.take 30}:bQ).cells (aP (z+18) d) else cB j):=by
  rw[D];exact(J.up ar).row q aJ (by decide) (by simp[bQ.cells]) (λj _ h=>by simp[h]) Y
 have aK:setCells N (i*5+3) [aA (r.rhs.take 30)]=some (N.set (i*5+3) (aA (r.rhs.take 30))):=setCells_one (aq.lt aJ (by decide));have l6:cb<p.next:=by omega
 have l7:cA<p.next:=by omega
 simp[-ux];refine cy.of B.ah rfl ?_;simp[b7,B.none,B.J,ao,Y,aJ,e3,-ux];refine eM ar.h (az:=[aA r.rhs,.int .i64 30]) (by simp[B.none]) rfl (λaL g'=>jR g' (pX hX (n:=30))) ?_;rintro _ _-⟨rfl,rfl⟩;simp[B.none,Y,aJ,aK,ak,<-D,l6,l7,cj,cd,jT,dM,ed,-ux];have g3:=O.k.h;have au:=O.x;rw[cO (show 0<ct by omega)]at au;obtain⟨L3,aM,aO⟩:=O.w (by omega);have e4:L3[i*5+2]? = some (aP (z+18) d):=by rw[(aO.2 i aJ).2 2 (by decide)];simp[bQ.cells]
 obtain⟨_,aQ⟩:∃a,aP (z+18) d=.slice a d d:=by
  unfold aP;split
  ·rename_i h;exact⟨none,by rw[h]⟩
  ·exact⟨_,rfl⟩
 rw[aQ]at e4;simp[au,aM,aJ,e4,-A'];obtain⟨f,av⟩:∃f:Nat->dq,∀j,j<r.j.length->r.j[j]? = some (f j):=⟨λj=>r.j.getD j wN,λj l=>by simp[l]⟩;have aR:∀b y,b≠cA->H.get b=some y->Z.get b=some y:=λb y P h=>by
  rw[D,a7 (h:=P),qX,w,a7 (h:=P)];exact I.some g h
 have hM:0<d->∃M,Z.get (z+18)=some (.cells M (.n 2))/\c0 M 2 d (λj=>if j<0 then(wM (f j)).cells else(f j).cells):=λh=>by
  obtain⟨a,b⟩:=T h;refine⟨lf,by rw[D,a7,qX,w,a7,v];exact rF h,c0.of a λj l=>?_⟩;obtain⟨cs,i,c,E,rfl⟩:=b j l;rw[i];rw[av j (by omega)]at E;cases E;simp
 clear v w D T F
 refine eE (σ:=Unit) d (λ_ _=>[(27,.int .i64 (i:Int)),(26,.int .i64 (ct:Int)),(2,.pointer (some ⟨c7,0,none⟩)),(3,.pointer (some ⟨cb,0,none⟩)),(4,.int .i64 (i:Int))])
  (λk _ aa=>eo pm aj aa c7 cb cP cA c3 ct eO (λj=>if j=i then({r with rhs:=r.rhs.take 30}:bQ).cells (aP (z+18) d) else cB j)/\(0<d->∃M,aa.get (z+18)=some (.cells M (.n 2))/\c0 M 2 d (λj=>if j<k then(wM (f j)).cells else(f j).cells))/\∀b y,b≠cA->H.get b=some y->aa.get b=some y)
  () (by simp) ⟨O,hM,aR⟩ ?_ ?_
 ·rintro k _ X c ⟨s,aF,aN⟩;obtain⟨M,C,aa⟩:=aF (by omega);have a:=s.k.h;have ab:=s.x;rw[cO (show 0<ct by omega)]at ab;obtain⟨LA,aw,aS⟩:=s.w (by omega);have e5:LA[i*5+2]? = some (aP (z+18) d):=by rw[(aS.2 i aJ).2 2 (by decide)];simp[bQ.cells]
  rw[cO (show 0<d by omega)]at e5;obtain⟨m,ax⟩:∃aT,aT=(f k).v:=⟨_,rfl⟩;have e6:M[k*2+1]? = some (aA m):=by rw[(aa.2 k c).2 1 (by decide),ax];simp[dq.cells]
  have ay:K pm X (X.up 21):=(K.refl a).up 21;obtain⟨HB,H⟩:∃A,A=(X.up 21).put (z+18) (.cells (M.set (k*2+1) (aA (m.take 20))) (.n 2)):=⟨_,rfl⟩;have aU:setCells M (k*2+1) [aA (m.take 20)]=some (M.set (k*2+1) (aA (m.take 20))):=setCells_one (aa.lt c (by decide));have aV:=λo=>eG (ah:=pm.ah) (ok:=pm.ok) (o:=o) (b:=z+18) (by have:=Q.ah;omega);have sB:eo pm aj HB c7 cb cP cA c3 ct eO (λj=>if j=i then({r with rhs:=r.rhs.take 30}:bQ).cells (aP (z+18) d) else cB j):=by
   rw[H];exact(s.up ay).put q (by omega) C (by simp)
  have m1:=a.lt ab;have m2:=a.lt aw;have m3:=a.lt C;have aX:z+18≠cA:=by omega
  simp;refine cy.of a.ah rfl ?_;simp[b7,a.none,a.J,ab,aw,aJ,e5,C,c,e6];refine eM ay.h (az:=[aA m,.int .i64 20]) (by simp[a.none]) rfl (λaL g'=>jR g' (pX hX (n:=20))) ?_;rintro _ _-⟨rfl,rfl⟩;simp[a.none,C,c,aU,aV,<-H,m1,m2,m3,cj,cd,jT,dM,ed];refine⟨sB,λ_=>⟨_,by rw[H];exact b1,aa.set c (by decide) _ ?_ λj l _=>?_⟩,λb y P h=>?_⟩
  ·simp[wM,dq.cells,ax]
  ·by_cases t:j<k
   ·simp[t,show j<k+1 by omega]
   ·simp[t,show ¬j<k+1 by omega]
  ·have:=g.lt h;rw[H,a7,qX];exact aN b y P h
 ·rintro _ _ ⟨b,c,h⟩;simp;have a:r.cut.j.length=d:=by simp[bQ.cut];omega
  refine hR _ _ (aP (z+18) d) (by simp) ?_ ?_ ?_ h
  ·have t:(λj=>if j=i then r.cut.cells (aP (z+18) d) else cB j)=(λj=>if j=i then({r with rhs:=r.rhs.take 30}:bQ).cells (aP (z+18) d) else cB j):=by
    funext j;split<;>rfl
   rw[t];exact b
  ·by_cases i:d=0
   ·refine⟨none,0,by rw[a,i];rfl,λj l=>by omega⟩
   ·obtain⟨M,k,m⟩:=c (by omega);refine⟨_,d,by rw[a,cO (by omega)],λj l=>⟨z+18,0,_,M,_,rfl,k,rfl,by rw[Nat.zero_add];exact m.row (by omega),wM (f j),?_,by simp[show j<d by omega]⟩⟩;have n:j<8:=by omega
    simp[bQ.cut, n,av j (by omega)];rfl
  ·unfold aP;split
   ·trivial
   ·rename_i _;exact⟨by show H.next<=z+18;omega,by omega⟩
end Go.Dam.C
namespace Go.Dam.C
open Go Go.Dam
variable{X:ar}{pm:Perm}{H aa bL aj:ad}{n c7 cb cP cA c3 ct:Nat}{eO cB:Nat->List Value}
theorem L6(z:oU X)(N:bs pm aj)(q:oV aj c7 cb cP cA)(s:eo pm aj H c7 cb cP cA c3 ct eO cB)(a:c3<=6){i:Nat}(aJ:i<c3){c:dy}(t:eO i=c.cells){R:b5}
 (O:∀aN aa,Sub [(98,.int .i64 (i:Int)),(97,.int .i64 (c3:Int)),(2,.pointer (some ⟨c7,0,none⟩)),(3,.pointer (some ⟨cb,0,none⟩))] aN->eo pm aj aa c7 cb cP cA c3 ct (λj=>if j=i then c.cut.cells else eO j) cB->(∀b y,b≠cP->H.get b=some y->aa.get b=some y)->R .normal aN aa):
 wp X pm (.code (.seq (.bj [m 100 98,m 6 100]) C.Be)) [(99,.bool true),(98,.int .i64 (i:Int)),(97,.int .i64 (c3:Int)),(2,.pointer (some ⟨c7,0,none⟩)),(3,.pointer (some ⟨cb,0,none⟩))] H [] R:=by
 have g:=s.k.h;have a:=q.bX;have a:=q.cv;have a:=q.cF;have a:=q.dw;have P:=g.lt s.x;obtain⟨L,u,a⟩:=s.c (by omega);have E:=s.x;rw[cO (show 0<c3 by omega)]at E;have Q:=g.lt u;have S:L[i*5+1]? = some (aA c.low):=by rw[(a.2 i aJ).2 1 (by decide),t];rfl
 have T:L[i*5+2]? = some (aA c.up):=by rw[(a.2 i aJ).2 2 (by decide),t];rfl
 have U:L[i*5+3]? = some (aA c.cost):=by rw[(a.2 i aJ).2 3 (by decide),t];rfl
 have V:=a.lt aJ (show 1<5 by decide);have W:=a.lt aJ (show 2<5 by decide);have Y:=a.lt aJ (show 3<5 by decide);have v:K pm H (H.up 39):=(K.refl g).up 39;have Z:=λo=>eG (ah:=pm.ah) (ok:=pm.ok) (o:=o) (b:=cP) (by have:=N.ah;omega);obtain⟨d,w⟩:∃l,l=L.set (i*5+1) (aA (c.low.take 20)):=⟨_,rfl⟩;obtain⟨e,B⟩:∃l,l=d.set (i*5+2) (aA (c.up.take 20)):=⟨_,rfl⟩;obtain⟨F,G⟩:∃l,l=e.set (i*5+3) (aA (c.cost.take 20)):=⟨_,rfl⟩;obtain⟨f,k⟩:∃A,A=(H.up 39).put cP (.cells d (.n 5)):=⟨_,rfl⟩;obtain⟨x,p⟩:∃A,A=f.put cP (.cells e (.n 5)):=⟨_,rfl⟩;obtain⟨A3,D⟩:∃A,A=x.put cP (.cells F (.n 5)):=⟨_,rfl⟩;have I:f.get cP=some (.cells d (.n 5)):=by rw[k];exact b1
 have J:x.get cP=some (.cells e (.n 5)):=by rw[p];exact b1
 have ab:setCells L (i*5+1) [aA (c.low.take 20)]=some d:=by rw[w];exact setCells_one V
 have ad:setCells d (i*5+2) [aA (c.up.take 20)]=some e:=by rw[B];exact setCells_one (by rw[w];simpa using W)
 have ae:setCells e (i*5+3) [aA (c.cost.take 20)]=some F:=by rw[G];exact setCells_one (by rw[B,w];simpa using Y)
 have a:eo pm aj f c7 cb cP cA c3 ct (λj=>if j=i then({c with low:=c.low.take 20}:dy).cells else eO j) cB:=by
  rw[k,w];exact(s.up v).af q aJ (by decide) (by rw[t];simp[dy.cells]) (λj _ h=>by simp[h]) u
 have d:eo pm aj x c7 cb cP cA c3 ct (λj=>if j=i then({c with low:=c.low.take 20,up:=c.up.take 20}:dy).cells else eO j) cB:=by
  rw[p,B];exact a.af q aJ (by decide) (by simp[dy.cells]) (λj _ h=>by simp[h]) I
 have s3:eo pm aj A3 c7 cb cP cA c3 ct (λj=>if j=i then c.cut.cells else eO j) cB:=by
  rw[D,G];exact d.af q aJ (by decide) (by simp[dy.cells,dy.cut]) (λj _ h=>by simp[h]) J
 have a:∀j,f.get (H.next+j)=none/\x.get (H.next+j)=none:=λj=>by
  have b:f.get (H.next+j)=none:=by rw[k,a7];exact g.none j
  exact⟨b,by rw[p,a7];exact b⟩
 have dn:du [cP] [cb]=true:=fq (by omega);have af:=λj=>(a j).1;have ag:=λj=>(a j).2;simp;refine cy.of g.ah rfl ?_;simp[b7,g.none,g.J,E,u,aJ,S,T,U];refine eM v.h (az:=[aA c.low,.int .i64 20]) (by simp[g.none]) rfl (λM r=>jR r (pX z (n:=20))) ?_;rintro _ _-⟨rfl,rfl⟩;simp;refine eM v.h (az:=[aA c.up,.int .i64 20]) (by simp[g.none]) rfl (λM r=>jR r (pX z (n:=20))) ?_;rintro _ _-⟨rfl,rfl⟩;simp;refine eM v.h (az:=[aA c.cost,.int .i64 20]) (by simp[g.none]) rfl (λM r=>jR r (pX z (n:=20))) ?_;rintro _ _-⟨rfl,rfl⟩;simp[g.none,u,aJ,ab,Z,<-k,af,I,ad,<-p,ag,J,ae,<-D,dn,P,Q,cj,cd,jT,dM,ed];refine O _ _ ?_ s3 λb y a h=>?_
 ·simp
 rw[D,a7 (h:=a),p,a7 (h:=a),k,a7 (h:=a),qX];exact h
end Go.Dam.C
namespace Go.Dam.C
open Go Go.Dam
variable{X:ar}{pm:Perm}{H aa bL aj:ad}{n:Nat}
theorem c0.yA{b k w:Nat}{f:Nat->List Value}{P:Nat->List Value->Prop}(h:0<k->∃L,H.get b=some (.cells L (.n w))/\c0 L w k f)(d:∀i,i<k->P i (f i)):c8 H (aP b k) k w P:=by
 by_cases a:0<k
 ·obtain⟨L,e,f⟩:=h a;exact⟨_,k,cO a,λi c=>⟨b,0,_,L,_,rfl,e,rfl,by rw[Nat.zero_add];exact f.row c,d i c⟩⟩
 ·obtain rfl:k=0:=by omega
  exact⟨none,0,rfl,λi _=>by omega⟩
theorem fM.mono{ak cf:Nat}{v:Value}(h:fM ak v)(a:cf<=ak):fM cf v:=by
 unfold fM at*
 split
 ·exact⟨aY a h.1,h.2⟩
 ·trivial
theorem fM.aP{ak b k:Nat}(h:ak<=b):fM ak (aP b k):=by
 unfold C.aP;split
 ·trivial
 ·rename_i _;exact⟨h,by omega⟩
theorem c8.ne{v:Value}{m w ak b:Nat}{P:Nat->List Value->Prop}(h:c8 H v m w P)(a:fM ak v)(p:b<ak)(AW:∀c y,c≠b->H.get c=some y->aa.get c=some y):c8 aa v m w P:=by
 obtain⟨b,d,rfl,e⟩:=h.ex;refine⟨b,d,rfl,λi f=>?_⟩;obtain⟨c,g,y,j,k,rfl,l,m,n,o⟩:=e i f;have a:ak<=c:=a.1;exact⟨c,g,y,j,k,rfl,AW _ _ (by omega) l,m,n,o⟩
theorem FD(hX:oU X):L3 X:=by
 intro pm H y ad g hv;refine Call.P hX.mG rfl λ_ hQ=>?_;obtain⟨_,_,rfl,M,hr⟩:=hv;obtain⟨ar,au,rfl,_⟩:=id M;obtain⟨av,aw,rfl,_⟩:=id hr;obtain⟨N,I⟩:∃b,b=H.next:=⟨_,rfl⟩;obtain⟨B,O⟩:∃B,B=H.new (.cells [.slice ar g.a.length au,.slice av g.rows.length aw] (.t tyU0)):=⟨_,rfl⟩;have k1:K pm H B:=by rw[O];exact K.new y _
 have g1:=k1.h;have aO:B.get N=some (.cells [.slice ar g.a.length au,.slice av g.rows.length aw] (.t tyU0)):=by rw[O,I];exact b4
 obtain⟨v,ae⟩:∃b,b=B.next:=⟨_,rfl⟩;obtain⟨l,P⟩:∃l,l=B.new (.cells [.slice none 0 0,.slice none 0 0] (.t tyU1)):=⟨_,rfl⟩;have k2:K pm B l:=by rw[P];exact K.new g1 _
 have s:=k2.h;have aQ:l.get v=some (.cells [.slice none 0 0,.slice none 0 0] (.t tyU1)):=by rw[P,ae];exact b4
 have af:=k2.some g1 aO;have Q:=k1.trans k2;have n1:B.next=N+1:=by rw[O,I];rfl
 have B:l.next=v+1:=by rw[P,ae];rfl
 obtain⟨fc,lc,ar,ag,R⟩:=zY (cc:=72) (k:=min g.a.length 6) (M.imp (Q.ext y) λ_ _ _ h=>h) (Nat.min_le_left _ _) (by decide) (by omega) (by decide) (λi D ⟨c,_,m⟩=>by rw[m];rfl);obtain⟨fr,S,ai,aj,T⟩:=zY (cc:=80) (k:=min g.rows.length 6) (eg.imp hr (Q.ext y) λ_ _ _ h=>h) (Nat.min_le_left _ _) (by decide) (by omega) (by decide) (λi D ⟨c,bP,_,m,t⟩=>by
  rw[m];obtain⟨_,_,a,_⟩:=t;rw[a];rfl)
 have ak:∀x∈fc,x<l.next:=λx e=>by obtain⟨ax,B⟩:=ar x e;exact s.lt B
 have U:∀x∈fr,x<l.next:=λx e=>by obtain⟨ax,B⟩:=ai x e;exact s.lt B
 obtain⟨q,ay⟩:∃k,k=min g.a.length 6:=⟨_,rfl⟩;obtain⟨f,az⟩:∃k,k=min g.rows.length 6:=⟨_,rfl⟩;rw[<-ay]at R ag;rw[<-az]at T aj;have m1:=I5 g.a.length;have m2:=I5 g.rows.length;rw[<-ay]at m1;rw[<-az]at m2;obtain⟨z,E⟩:∃z,z=l.next:=⟨_,rfl⟩;have kU:K pm l (l.up 19):=(K.refl s).up 19;have xU:=kU.ext s;obtain⟨V,J⟩:∃A,A=fp (l.up 19) (z+7) q 5 lc:=⟨_,rfl⟩;have al:K pm l V:=by rw[J];exact aF.fp kU (by omega) (by rw[E];exact s.none 7) (by show z+7<l.next+19;omega)
 have c1:=(R _ xU pm.ah (z+6) pm.ok).1;have c2:=(R _ xU pm.ah (z+7) pm.ok).2;have aA:=al.ext s;obtain⟨W,F⟩:∃A,A=fp V (z+15) f 5 S:=⟨_,rfl⟩;have X:∀j,j≠7->V.get (z+j)=none:=λj p=>by rw[J,o9,E];exact s.none j
 have B:V.next=z+19:=by rw[J,tY,E];rfl
 have aB:K pm l W:=by rw[F];exact aF.fp al (by omega) (X 15 (by decide)) (by omega)
 have c3:=(T _ aA pm.ah (z+14) pm.ok).1;have c4:=(T _ aA pm.ah (z+15) pm.ok).2;have Y:∀j,j≠7->j≠15->W.get (z+j)=none:=λj p _=>by rw[F,o9];exact X j p
 have aR:W.next=z+19:=by rw[F,tY,B]
 rw[<-J]at c2;rw[<-F]at c4;have aS:=al.some s af;have B:=aB.some s af;simp[y.pick,y.make,ptr,<-I,<-O,  <-ae,<-P,-xr];refine cy.of s.ah rfl ?_;rw[<-E];have aC:=λj=>(by rw[E];exact s.none j:(l.up 19).get (z+j)=none);have aD:=(by rw[E];exact s.J:(l.up 19).get z=none);have an:∀b i,c6 (aP b i)=true:=λb i=>by unfold aP;split<;>rfl
 have aE:∀b i,(aP b i).cells=#[aP b i]:=λb i=>by unfold aP;split<;>rfl
 obtain⟨L,C⟩:∃A,A=W.put (z+17) (.cells [.slice none 0 0,.slice none 0 0] (.t tyU2)):=⟨_,rfl⟩;obtain⟨Z,G⟩:∃A,A=L.put (z+17) (.cells [aP (z+7) q,aP (z+15) f] (.t tyU2)):=⟨_,rfl⟩;have aG:L.get (z+18)=none:=by rw[C,a7];exact Y 18 (by decide) (by decide)
 have ao:L.get (z+17)=some (.cells [.slice none 0 0,.slice none 0 0] (.t tyU2)):=by rw[C];exact b1
 have O:=λo=>eG (ah:=pm.ah) (ok:=pm.ok) (o:=o) (b:=z+17) (by have:=s.ah;omega);have P:N<z:=by omega
 have aq:∀j k,∀x∈iS (z+j) k,z<=x:=λj k x e=>by rw[rG e];omega
 have I:∀x∈[N],x<z:=λx e=>by rw[lY.1 e];omega
 have B:∀x∈[z+17],z<=x:=λx e=>by rw[lY.1 e];omega
 rw[<-E]at ak U;have d1:=λj k=>(jU I (aq j k)).2;have d2:=λj k=>(jU U (aq j k)).2;have d3:=(jU I B).2;have d4:=(jU ak B).2;have d5:=(jU U B).2;have d6:=(wK (n:=q) (show z+7≠z+17 by omega)).2;have d7:=(wK (n:=f) (show z+15≠z+17 by omega)).2;have d8:=jU (a:=iS (z+7) q) (b:=iS (z+15) f) (n:=z+8) (λx e=>by rw[rG e];omega) (λx e=>by rw[rG e];omega);have f1:∀b∈fc,b<z∨z+19<=b:=λb B=>.inl (ak b B);have f2:∀b∈fr,b<z∨z+19<=b:=λb B=>.inl (U b B);simp[d1,d2,d3,d4,d5,d6,d7,  P, dM,b7,aC,aD,af,m1,c1,c2,X,aS,m2,c3,c4,Y, aE,an,setCells,bB,Perm.make,Perm.pick,ptr,<-C,aG,ao,O,<-G,cj,cd,-ei,-xr];refine⟨⟨λx e=>.inl (.inl (f1 x e)),λx e=>.inl (.inl (f1 x e)),λx e=>.inl (.inl (f2 x e)),λx e=>.inl (.inl (f2 x e))⟩,?_⟩;have e:L.next=z+19:=by rw[C];exact aR
 have x:K pm l L:=by rw[C];exact aF.fill aB (by omega) (Y 17 (by decide) (by decide)) (by omega) _
 have ab:K pm l Z:=by rw[G];exact aF.put x (by omega) ao (by simp) _
 have l:Z.next=z+19:=by rw[G];exact e
 have aH:oV H v (z+17) (z+7) (z+15):=⟨by omega,by omega,by omega,by omega⟩;obtain⟨u,aJ⟩:∃e:Nat->dy,∀j,j<g.a.length->g.a[j]? = some (e j):=⟨λj=>g.a.getD j ⟨[],[],[],[],false⟩,λj p=>by simp[p]⟩;obtain⟨d,aK⟩:∃e:Nat->bQ,∀j,j<g.rows.length->g.rows[j]? = some (e j):=⟨λj=>g.rows.getD j ⟨[],0,[],[],[]⟩,λj p=>by simp[p]⟩;obtain⟨w,aL⟩:∃w:Nat->Value,∀j,j<f->(bx S (j*5) 5=some ((d j).cells (w j))/\eg H (w j) (d j).j.length 2 λi D=>∃c,(d j).j[i]? = some c/\D=c.cells):=by
  have:∀j,∃ad,j<f->(bx S (j*5) 5=some ((d j).cells ad)/\eg H ad (d j).j.length 2 λi D=>∃c,(d j).j[i]? = some c/\D=c.cells):=λj=>by
   by_cases p:j<f
   ·obtain⟨D,a,r,bP,t,rfl,b⟩:=(aj (by omega)).2 j p;rw[aK j (by omega)]at t;cases t;exact⟨bP,λ_=>⟨a,b⟩⟩
   ·exact⟨.bool true,λh=>absurd h p⟩
  exact⟨λj=>(this j).choose,λj=>(this j).choose_spec⟩
 have s0:eo pm H Z v (z+17) (z+7) (z+15) q f (λj=>(u j).cells) (λj=>(d j).cells (w j)):=by
  refine⟨K.trans Q ab,ab.some s aQ,by rw[G];exact b1,λh=>⟨lc,?_,c0.of (ag h).1 λj p=>?_⟩,λh=>⟨S,?_,c0.of (aj h).1 λj p=>(aL j p).1⟩⟩
  ·rw[G,a7,C,a7,F,o9,J];exact rF h
  ·obtain⟨D,a,c,t,rfl⟩:=(ag h).2 j p;rw[aJ j (by omega)]at t;cases t;exact a
  ·rw[G,a7,C,a7,F];exact rF h
 have e:=ab.h;have e:K pm H Z:=K.trans Q ab;clear J F C G T R c1 c2 c3 c4 X Y aG ao d1 d2 d3 d4 d5 d6 d7 d8 f1 f2 aC aD aq;obtain⟨_,aM,_⟩:=k9 (z+7) q;obtain⟨_,aN,_⟩:=k9 (z+15) f;have e:=s0.x;rw[aM,aN]at e;simp[e,-Ba,-Bf]
 refine eE (σ:=Nat->Value) f (λ_ _=>[(2,.pointer (some ⟨v,0,none⟩)),(3,.pointer (some ⟨z+17,0,none⟩))])
  (λi a aa=>eo pm H aa v (z+17) (z+7) (z+15) q f (λj=>(u j).cells) (λj=>if j<i then(d j).cut.cells (a j) else(d j).cells (w j))/\∀j,j<i->gB aa (a j) (d j).cut.j/\fM (z+16) (a j))
  w (by simp) ⟨by simpa using s0,λj p=>absurd p (hz _)⟩ ?_ ?_
 ·rintro i a _ c ⟨b,h⟩;refine L8 hX y aH b (by omega) c (r:=d i) (bP:=w i) (by simp) (aL i c).2 ?_;intro _ _ c e k n ai o;have l:=b.k.h.lt b.x;refine⟨λj=>if j=i then c else a j,e,?_,λj p=>?_⟩
  ·have m:(λj=>if j=i then(d i).cut.cells c else if j<i then(d j).cut.cells (a j) else(d j).cells (w j))=(λj=>if j<i+1 then(d j).cut.cells (if j=i then c else a j) else(d j).cells (w j)):=by
    funext j;by_cases m:j=i
    ·subst m;simp
    ·by_cases t:j<i
     ·simp[m,t,show j<i+1 by omega]
     ·simp[m,t,show ¬j<i+1 by omega]
   rw[<-m];exact k
  ·by_cases m:j=i
   ·subst m;simp only[if_true];exact⟨n,ai.mono (by omega)⟩
   ·simp only[m,if_false];obtain⟨b,a⟩:=h j (by omega);exact⟨c8.ne b a (by omega) o,a⟩
 ·rintro n _ ⟨e,s⟩;have l:=e.x;rw[aM,aN]at l;simp[l,-Bb,-Bc]
  refine eE (σ:=Unit) q (λ_ _=>[(2,.pointer (some ⟨v,0,none⟩)),(3,.pointer (some ⟨z+17,0,none⟩))])
   (λi _ aa=>eo pm H aa v (z+17) (z+7) (z+15) q f (λj=>if j<i then(u j).cut.cells else(u j).cells) (λj=>if j<f then(d j).cut.cells (n j) else(d j).cells (w j))/\∀j,j<f->gB aa (n j) (d j).cut.j/\fM (z+16) (n j))
   () (by simp) ⟨by simpa using e,s⟩ ?_ ?_
  ·rintro i _ _ a ⟨b,h⟩;refine L6 hX y aH b (by omega) a (c:=u i) (by simp) ?_;intro _ _ a k o;refine⟨(),a,?_,λj p=>?_⟩
   ·have m:(λj=>if j=i then(u i).cut.cells else if j<i then(u j).cut.cells else(u j).cells)=(λj=>if j<i+1 then(u j).cut.cells else(u j).cells):=by
     funext j;by_cases m:j=i
     ·subst m;simp
     ·by_cases t:j<i
      ·simp[m,t,show j<i+1 by omega]
      ·simp[m,t,show ¬j<i+1 by omega]
    rw[<-m];exact k
   ·obtain⟨b,a⟩:=h j p;exact⟨c8.ne b a (by omega) o,a⟩
  ·rintro _ HB ⟨a,r⟩;have xB:=a.x;have rB:=a.r;have e:=a.k.h;have an:∀b i,c6 (aP b i)=true:=λb i=>by unfold aP;split<;>rfl
   have aE:∀b i,(aP b i).cells=#[aP b i]:=λb i=>by unfold aP;split<;>rfl
   have aa:pm.may v=true:=y.may (by omega);obtain⟨o,k⟩:∃A,A=HB.put v (.cells [aP (z+7) q,aP (z+15) f] (.t tyU1)):=⟨_,rfl⟩;simp[xB,rB,bx,bB, an,setCells,aa,<-k];refine hQ _ _ _ ?_;have e:o.get v=some (.cells [aP (z+7) q,aP (z+15) f] (.t tyU1)):=by rw[k];exact b1
   have l:K pm H o:=by rw[k];exact aF.put a.k (by omega) rB (by simp) _
   simp[dG,e,bx,bB];refine⟨l,?_⟩;have ah:g.cut.a.length=q:=by simp[aI.cut];omega
   have aT:g.cut.rows.length=f:=by simp[aI.cut];omega
   have aU:0<q->∃L,o.get (z+7)=some (.cells L (.n 5))/\c0 L 5 q (λj=>if j<q then(u j).cut.cells else(u j).cells):=λh=>(a.c h).imp λL h=>⟨by rw[k,a7];exact h.1,h.2⟩;have aV:0<f->∃L,o.get (z+15)=some (.cells L (.n 5))/\c0 L 5 f (λj=>if j<f then(d j).cut.cells (n j) else(d j).cells (w j)):=λh=>(a.w h).imp λL h=>⟨by rw[k,a7];exact h.1,h.2⟩;refine⟨_,_,rfl,?_,?_,fM.aP (by omega),fM.aP (by omega)⟩
   ·unfold gC;rw[ah];refine c0.yA aU λi a=>⟨(u i).cut,?_,by simp[a]⟩;simp[aI.cut, show i<6 by omega,aJ i (by omega)]
   ·unfold mu;rw[aT];refine c0.yA aV λi a=>⟨(d i).cut,n i,?_,by simp[a],?_,(r i a).2.mono (by omega)⟩
    ·simp[aI.cut, show i<6 by omega,aK i (by omega)]
    ·exact c8.ne (r i a).1 (r i a).2 (b:=v) (by omega) λc ax M h=>by rw[k,a7 (h:=M)];exact h
def dk(H:ad)(ak:Nat)(v:Value)(k w:Nat)(P:Nat->List Value->Prop):Prop:=
 ∃a b,v=.slice a k b/\(a=none->k=0)/\∀d,a=some d->∃b a y c,d=⟨b,a,none⟩/\ak<=b/\H.get b=some y/\rowOf y=some c/\a+k*w<=c.length/\∀i,i<k->∃b,bx c (a+i*w) w=some b/\P i b
theorem dk.aP{ak k w:Nat}{v:Value}{P:Nat->List Value->Prop}(h:dk H ak v k w P):c8 H v k w P:=by
 obtain⟨a,b,rfl,c,d⟩:=h;refine⟨a,b,rfl,λi e=>?_⟩
 cases a with
 | none=>have:=c rfl;omega
 | some _=>
   obtain⟨f,g,y,h,rfl,_,j,k,_,l⟩:=d _ rfl;obtain⟨a,m,n⟩:=l i e;exact⟨f,g,y,h,a,rfl,j,k,m,n⟩
theorem dk.imp{ak k w:Nat}{v:Value}{P a:Nat->List Value->Prop}(h:dk H ak v k w P)(e:Ext H aa)(b:∀i cs,i<k->P i cs->a i cs):dk aa ak v k w a:=by
 obtain⟨c,d,rfl,f,g⟩:=h;refine⟨c,d,rfl,f,λa c=>?_⟩;obtain⟨d,f,y,j,k,l,m,n,o,p⟩:=g a c;exact⟨d,f,y,j,k,l,e _ _ m,n,o,λi a=>(p i a).imp λcs q=>⟨q.1,b i cs a q.2⟩⟩
theorem dk.qt{ak k w:Nat}{v:Value}{P a:Nat->List Value->Prop}(h:dk H ak v k w P)(e:∀b y,ak<=b->H.get b=some y->aa.get b=some y)(c:∀i cs,i<k->P i cs->a i cs):dk aa ak v k w a:=by
 obtain⟨d,f,rfl,g,j⟩:=h;refine⟨d,f,rfl,g,λd f=>?_⟩;obtain⟨b,g,y,k,l,a,m,n,o,p⟩:=j d f;exact⟨b,g,y,k,l,a,e _ _ a m,n,o,λi a=>(p i a).imp λcs q=>⟨q.1,c i cs a q.2⟩⟩
theorem dk.mono{ak cf k w:Nat}{v:Value}{P a:Nat->List Value->Prop}(h:dk H ak v k w P)(b:cf<=ak)(c:∀i cs,i<k->P i cs->a i cs):dk H cf v k w a:=by
 obtain⟨d,e,rfl,f,g⟩:=h;refine⟨d,e,rfl,f,λa d=>?_⟩;obtain⟨e,f,y,j,k,l,m,n,o,p⟩:=g a d;exact⟨e,f,y,j,k,aY b l,m,n,o,λi a=>(p i a).imp λcs q=>⟨q.1,c i cs a q.2⟩⟩
theorem dk.put{ak k w b:Nat}{v:Value}{P a:Nat->List Value->Prop}(h:dk H ak v k w P)(g:b<ak)(x:bk)(c:∀i cs,i<k->P i cs->a i cs):dk (H.put b x) ak v k w a:=by
 obtain⟨b,d,rfl,e,f⟩:=h;refine⟨b,d,rfl,e,λa b=>?_⟩;obtain⟨d,e,y,g,j,k,l,m,n,o⟩:=f a b;exact⟨d,e,y,g,j,k,by rw[a7];exact l,m,n,λi a=>(o i a).imp λcs q=>⟨q.1,c i cs a q.2⟩⟩
theorem dk.BT{ak k w:Nat}{v:Value}{P:Nat->List Value->Prop}(h:c8 H v k w P)(b:fM ak v):dk H ak v k w P:=by
 obtain⟨i,j,rfl,a⟩:=h.ex;refine⟨i,j,rfl,λe=>?_,λl e=>?_⟩
 ·subst e;apply lW;intro _;obtain⟨_,_,_,_,_,e,_⟩:=a 0 (by omega);cases e
 ·subst e;have h:ak<=l.block:=b.1;have i:0<k:=b.2;obtain⟨m,n,y,o,_,p,c,d,q,_⟩:=a (k-1) (by omega);cases p;refine⟨m,n,y,o,rfl,h,c,d,?_,λi b=>?_⟩
  ·have:=(pg q).1;have e:(k-1)*w+w=k*w:=by
    rw[<-hS];congr 1;omega
   omega
  ·obtain⟨_,_,_,_,k,r,f,g,s,t⟩:=a i b;cases r;rw[c]at f;cases f;rw[d]at g;cases g;exact⟨k,s,t⟩
def dR(H:ad)(ah aJ:Nat)(v:Value)(k w:Nat)(f:Nat->List Value):Prop:=
 v=.slice none 0 0/\k=0∨∃b L,ah<=b/\b<aJ/\v=.slice (some ⟨b,0,none⟩) k k/\H.get b=some (.cells L (.n w))/\c0 L w k f
theorem dR.form{ah aJ k w:Nat}{v:Value}{f:Nat->List Value}(h:dR H ah aJ v k w f):∃a,v=.slice a k k:=by
 rcases h with⟨rfl,rfl⟩ | ⟨b,L,_,_,rfl,_⟩
 ·exact⟨_,rfl⟩
 ·exact⟨_,rfl⟩
theorem dR.one{ah aJ k w:Nat}{v:Value}{f:Nat->List Value}(h:dR H ah aJ v k w f):c6 v=true/\v.cells=#[v]:=by
 obtain⟨_,rfl⟩:=h.form;exact⟨rfl,rfl⟩
theorem dR.pos{ah aJ k w:Nat}{v:Value}{f:Nat->List Value}(h:dR H ah aJ v k w f)(a:0<k):∃b L,ah<=b/\b<aJ/\v=.slice (some ⟨b,0,none⟩) k k/\H.get b=some (.cells L (.n w))/\c0 L w k f:=by
 rcases h with⟨_,rfl⟩ | h
 ·omega
 ·exact h
theorem dR.ext{ah aJ k w:Nat}{v:Value}{f:Nat->List Value}(h:dR H ah aJ v k w f)(e:Ext H aa):dR aa ah aJ v k w f:=
 h.imp id λ⟨b,L,a,c,d,f,g⟩=>⟨b,L,a,c,d,e _ _ f,g⟩
theorem dR.mono{ah aJ BI AX k w:Nat}{v:Value}{f:Nat->List Value}(h:dR H ah aJ v k w f)(a:BI<=ah)(b:aJ<=AX):dR H BI AX v k w f:=
 h.imp id λ⟨c,L,d,e,f⟩=>⟨c,L,aY a d,eC e b,f⟩
theorem dR.put{ah aJ k w c:Nat}{v:Value}{f:Nat->List Value}(h:dR H ah aJ v k w f)(a:c<ah∨aJ<=c)(x:bk):dR (H.put c x) ah aJ v k w f:=
 h.imp id λ⟨b,L,a,c,d,e,f⟩=>⟨b,L,a,c,d,by rw[a7];exact e,f⟩
theorem dR.e{ah aJ k w:Nat}{v:Value}{f:Nat->List Value}{P:Nat->List Value->Prop}(h:dR H ah aJ v k w f)(a:∀i,i<k->P i (f i)):dk H ah v k w P:=by
 rcases h with⟨rfl,rfl⟩ | ⟨b,L,bX,cv,rfl,dw,gZ⟩
 ·exact⟨none,0,rfl,λ_=>rfl,λ_ h=>(by cases h)⟩
 ·refine⟨_,_,rfl,λh=>(by cases h),λ_ h=>?_⟩;cases h;exact⟨b,0,_,L,rfl,bX,dw,rfl,by rw[gZ.1];omega,λi aJ=>⟨f i,by rw[Nat.zero_add];exact gZ.row aJ,a i aJ⟩⟩
theorem dR.congr{ah aJ k w:Nat}{v:Value}{f lC:Nat->List Value}(h:dR H ah aJ v k w f)(c:∀j,j<k->lC j=f j):dR H ah aJ v k w lC:=
 h.imp id λ⟨b,L,d,e,f,g,a⟩=>⟨b,L,d,e,f,g,a.1,λj b=>by rw[c j b];exact a.2 j b⟩
def wG(w cc:Nat):aZ:=⟨8,(.seq (.bj [o 2 (.cM (.c (.slice none 0 0)))]) (.seq (.seq (.bj [m 3 0,o 4 (.bin .eql (.nil .fb) (.t 3) (.c (.slice none 0 0)))]) (.cond (.t 4) (.seq (.bj [o 2 (.cM (.c (.slice none 0 0)))]) .ret) .skip)) (.seq (.bj [o 5 (.buildSlice [] w 0 []),m 6 0,o 7 (.append w cc (.t 5) (.t 6)),m 2 7]) .ret))),[.slot 2]⟩
theorem vO{b w cc:Nat}(o:Has X b (wG w cc))(g:bs pm H){v:Value}{k ak:Nat}{P:Nat->List Value->Prop}(c:dk H ak v k w P) (q:k<=1000) (s:∀i cs,P i cs->cs.all c6=true)(t:1<=w:=by decide)(u:cc<=200:=by decide):
 Call X pm b [v] H λr aa=>K pm H aa/\∃f,dR aa H.next aa.next r k w f/\∀i,i<k->P i (f i):=by
 refine Call.has o rfl ?_;obtain⟨x,_,rfl,y,z⟩:=c
 cases x with
 | none=>
   obtain rfl:k=0:=y rfl;simp[wG];exact⟨K.refl g,λ_=>[],.inl ⟨rfl,rfl⟩⟩
 | some _=>
   obtain⟨_,off,_,row,rfl,_,r,h,_,j⟩:=z _ rfl;have a:=K.new g (.cells [] (.n w));have b:=a.h;have d:(H.new (.cells [] (.n w))).get H.next=some (.cells [] (.n w)):=b4;have m:=a.some g r;have A:pm.may H.next=true:=g.may (bg _);by_cases e:k=0
   ·subst e;have b:bx row off (0*w)=some []:=by rw[pf (by omega)];simp
    simp[wG,g.make,g.pick,fill,m,h,eN]at b|-;simp[b];exact⟨a,λ_=>[],.inr ⟨_,[],bg _,nd _,rfl,d,by simp,λ_ b=>absurd b (hz _)⟩⟩
   ·obtain⟨l,B,o,r⟩:=AS (n:=k) (row:=row) (off:=off) (w:=w) (by omega) (λi b=>(j i b).imp λ_ x=>x.1);have x:∀i,i<k->∃cs,bx l (i*w) w=some cs/\P i cs:=λi b=>by
     obtain⟨cs,f,g⟩:=j i b;exact⟨cs,by rw[r i b,f],g⟩
    obtain⟨f,i,n⟩:=c0.ex o x;have C:l.all c6=true:=by
     rw[eD];intro v c;obtain⟨p,f,rfl⟩:=u5 c;have c:p<k*w:=by omega
     have b:p/w<k:=ox (by rw[dW];exact c);have g:=eD.1 (s _ _ (n _ b));have j:p%w<w:=kY _ (by omega);have c:=(i.2 _ b).2 _ j;have e:p/w*w+p%w=p:=by rw[dW];exact qM p w
     rw[e,eu f]at c;exact g _ (eB c.symm)
    have b:k*cc<=17179869184:=aY (gK q u) (by decide);have c:K pm H (((H.new (.cells [] (.n w))).put H.next .dead).new (.cells l (.n w))):=aF.new (aF.put a (bg _) d (by simp) _) (oo _) _;have a:bx [] 0 0=some []:=rfl;simp[wG,g.make,g.pick,fill,m,h,B,eN,e,b,t,d,A,C,a,show k<=17179869184 by omega];exact⟨c,f,.inr ⟨_,l,oo _,nd _,rfl,b4,i⟩,n⟩
end Go.Dam.C
namespace Go.Dam.C
open Go Go.Dam
variable{X:ar}{pm:Perm}{H aa bL aj:ad}{n:Nat}
structure vR(X:ar):Prop extends oU X where
 pI:Has X F.pI C.pI
 pJ:Has X F.pJ C.pJ
 nk:Has X F.nk C.nk
 jS:Has X F.jS C.jS
abbrev ga:Nat:=T.NR
abbrev yP:Nat:=T.NS
def jm(l:List dq)(i:Nat)(cs:List Value):Prop:=∃c,l[i]? = some c/\cs=c.cells
def y4(l:List dy)(i:Nat)(cs:List Value):Prop:=∃c,l[i]? = some c/\cs=c.cells
def MF(H:ad)(ak:Nat)(l:List bQ)(i:Nat)(cs:List Value):Prop:=∃r a,l[i]? = some r/\cs=r.cells a/\dk H ak a r.j.length 2 (jm r.j)
def h2(H:ad)(ak:Nat)(v:Value)(l:List bQ):Prop:=dk H ak v l.length 5 (MF H ak l)
def fC(H:ad)(ak:Nat)(v:Value)(ab:aI):Prop:=∃a b,v=.agg #[a,b]/\dk H ak a ab.a.length 5 (y4 ab.a)/\h2 H ak b ab.rows
theorem h2.ext{ak:Nat}{v:Value}{l:List bQ}(h:h2 H ak v l)(e:Ext H aa):h2 aa ak v l:=dk.imp h e λ_ _ _ ⟨r,a,b,c,d⟩=>⟨r,a,b,c,d.imp e λ_ _ _ h=>h⟩
theorem h2.jY{ak:Nat}{v:Value}{l:List bQ}(h:h2 H ak v l)(e:∀b y,ak<=b->H.get b=some y->aa.get b=some y):h2 aa ak v l:=dk.qt h e λ_ _ _ ⟨r,a,c,d,f⟩=>⟨r,a,c,d,f.qt e λ_ _ _ h=>h⟩
theorem h2.mono{ak cf:Nat}{v:Value}{l:List bQ}(h:h2 H ak v l)(a:cf<=ak):h2 H cf v l:=dk.mono h a λ_ _ _ ⟨r,b,c,d,e⟩=>⟨r,b,c,d,e.mono a λ_ _ _ h=>h⟩
theorem h2.put{ak b:Nat}{v:Value}{l:List bQ}(h:h2 H ak v l)(a:b<ak)(x:bk):h2 (H.put b x) ak v l:=dk.put h a x λ_ _ _ ⟨r,c,d,e,f⟩=>⟨r,c,d,e,f.put a x λ_ _ _ h=>h⟩
theorem h2.rows{ak:Nat}{v:Value}{l:List bQ}(h:h2 H ak v l):iM H v l:=c8.imp (dk.aP h) (λ_ _ e=>e) λ_ _ _ ⟨r,a,b,c,d⟩=>⟨r,a,b,c,d.aP⟩
theorem fC.ext{ak:Nat}{v:Value}{ab:aI}(h:fC H ak v ab)(e:Ext H aa):fC aa ak v ab:=by
 obtain⟨a,b,rfl,c,d⟩:=h;exact⟨a,b,rfl,c.imp e λ_ _ _ h=>h,d.ext e⟩
theorem fC.jY{ak:Nat}{v:Value}{ab:aI}(h:fC H ak v ab)(e:∀b y,ak<=b->H.get b=some y->aa.get b=some y):fC aa ak v ab:=by
 obtain⟨a,b,rfl,c,d⟩:=h;exact⟨a,b,rfl,c.qt e λ_ _ _ h=>h,d.jY e⟩
theorem fC.mono{ak cf:Nat}{v:Value}{ab:aI}(h:fC H ak v ab)(a:cf<=ak):fC H cf v ab:=by
 obtain⟨b,c,rfl,d,e⟩:=h;exact⟨b,c,rfl,d.mono a λ_ _ _ h=>h,e.mono a⟩
theorem fC.put{ak b:Nat}{v:Value}{ab:aI}(h:fC H ak v ab)(a:b<ak)(x:bk):fC (H.put b x) ak v ab:=by
 obtain⟨b,c,rfl,d,e⟩:=h;exact⟨b,c,rfl,d.put a x λ_ _ _ h=>h,e.put a x⟩
theorem fC.ab{ak:Nat}{v:Value}{ab:aI}(h:fC H ak v ab):iL H v ab:=by
 obtain⟨a,b,rfl,c,d⟩:=h;exact⟨a,b,rfl,c.aP,d.rows⟩
theorem hC.e{ak:Nat}{v:Value}{ab:aI}(h:hC H ak v ab):fC H ak v ab:=by
 obtain⟨a,b,rfl,c,d,e,f⟩:=h;exact⟨a,b,rfl,.BT c e,dk.mono (.BT d f) (bg _) λ_ _ _ ⟨r,a,b,c,d,e⟩=>⟨r,a,b,c,.BT d e⟩⟩
def hD(H:ad)(ak:Nat)(r:Value)(ab:aI):Prop:=∃(c d:Value) (a b:Nat) (e:Nat->Value),r=.agg #[c,d]/\ak<=a/\a<=b/\dR H ak a c ab.a.length 5 (λj=>(ab.af j).cells)/\dR H a b d ab.rows.length 5 (λj=>(ab.row j).cells (e j))/\∀j,j<ab.rows.length->dk H b (e j) (ab.row j).j.length 2 (jm (ab.row j).j)
theorem hD.gp{ak:Nat}{r:Value}{ab:aI}(h:hD H ak r ab):∃a b cf,r=.agg #[a,b]/\ak<=cf/\dR H ak cf a ab.a.length 5 (λj=>(ab.af j).cells)/\h2 H cf b ab.rows:=by
 obtain⟨a,b,cf,_,_,rfl,d,e,f,g,i⟩:=h;exact⟨a,b,cf,rfl,d,f,g.e λj c=>⟨_,_,aI.rowAt c,rfl,(i j c).mono e λ_ _ _ h=>h⟩⟩
theorem hD.e{ak:Nat}{r:Value}{ab:aI}(h:hD H ak r ab):fC H ak r ab:=by
 obtain⟨a,b,_,rfl,c,d,e⟩:=h.gp;exact⟨a,b,rfl,d.e λ_ a=>⟨_,aI.jv a,rfl⟩,e.mono c⟩
structure lb(pm:Perm)(aj H:ad)(bl cb ak cf fR:Nat)(mc jJ:Value)(ab:aI)(cB:Nat->List Value):Prop where
 k:K pm aj H
 r:H.get bl=some (.cells [.slice none 0 0,.slice none 0 0] (.t ga))
 x:H.get cb=some (.cells [mc,jJ] (.t ga))
 c:dR H ak cf mc ab.a.length 5 λj=>(ab.af j).cells
 w:dR H cf fR jJ ab.rows.length 5 cB
 hc:fR<=H.next
structure y5(aj:ad)(bl cb ak cf fR:Nat):Prop where
 bX:aj.next<=bl
 cv:bl<cb
 cF:cb<ak
 dw:ak<=cf
 gZ:cf<=fR
variable{bl cb ak cf fR:Nat}{mc jJ:Value}{ab:aI}{cB:Nat->List Value}
theorem lb.up(s:lb pm aj H bl cb ak cf fR mc jJ ab cB)(u:K pm H aa):lb pm aj aa bl cb ak cf fR mc jJ ab cB where
 k:=K.trans s.k u
 r:=u.some s.k.h s.r
 x:=u.some s.k.h s.x
 c:=s.c.ext (u.ext s.k.h)
 w:=s.w.ext (u.ext s.k.h)
 hc:=aY s.hc u.next
theorem lb.row(s:lb pm aj H bl cb ak cf fR mc jJ ab cB)(o:y5 aj bl cb ak cf fR){a:Nat->List Value}{i k cA:Nat}{v:Value}(aJ:i<ab.rows.length)(g:k<5)(h:a i=(cB i).set k v)(l:∀j,j<ab.rows.length->j≠i->a j=cB j){L:List Value}(b:jJ=.slice (some ⟨cA,0,none⟩) ab.rows.length ab.rows.length)(c:H.get cA=some (.cells L (.n 5))):
 lb pm aj (H.put cA (.cells (L.set (i*5+k) v) (.n 5))) bl cb ak cf fR mc jJ ab a:=by
 obtain⟨_,_,d,j,e,f,m⟩:=s.w.pos (by omega);rw[b]at e;cases e;rw[c]at f;cases f;have a:=o.bX;have a:=o.cv;have a:=o.cF;have a:=o.dw;exact⟨aF.put s.k (by omega) c (by simp) _,by rw[a7];exact s.r,by rw[a7];exact s.x,s.c.put (.inr d) _,.inr ⟨cA,_,d,j,b,b1,m.set aJ g v h l⟩,s.hc⟩
theorem ND(Y:vR X)(M:bs pm aj)(d:y5 aj bl cb ak cf fR)(s:lb pm aj H bl cb ak cf fR mc jJ ab cB){i m0:Nat}(aJ:i<ab.rows.length){r:bQ}{bP:Value}(N:cB i=r.cells bP)
 (O:dk aj m0 bP r.j.length 2 (jm r.j)) (Z:r.j.length<=1000) {R:b5}
 (hR:∀aN aa A,Sub [(16,.int .i64 (i:Int)),(15,.int .i64 (ab.rows.length:Int)),(2,.pointer (some ⟨bl,0,none⟩)),(3,.pointer (some ⟨cb,0,none⟩)),(14,jJ)] aN->lb pm aj aa bl cb ak cf fR mc jJ ab (λj=>if j=i then r.cells A else cB j)->
  dk aa fR A r.j.length 2 (jm r.j)->(∀b y,fR<=b->H.get b=some y->aa.get b=some y)->R .normal aN aa):
 wp X pm (.code (.seq (.bj [m 18 16,o 19 (.iW 5 (.t 14) (.t 16)),o 20 (.load true 5 (.t 19)),o 5 (.alloc yP [(.string ⟨#[]⟩),(.int .i64 (.ofNat 0)),(.slice none 0 0),(.string ⟨#[]⟩),(.string ⟨#[]⟩)]),m 4 18,⟨none,none,.store 5 (.t 5) (.t 20)⟩]) C.An)) [(17,.bool true),(16,.int .i64 (i:Int)),(15,.int .i64 (ab.rows.length:Int)),(2,.pointer (some ⟨bl,0,none⟩)),(3,.pointer (some ⟨cb,0,none⟩)),(14,jJ)] H [] R:=by
 have g:=s.k.h;have F:=d.bX;have F:=d.cv;have F:=d.cF;have F:=d.dw;have F:=d.gZ;have F:=g.lt s.x;have F:=s.hc;obtain⟨l,L,_,_,n,P,Q⟩:=s.w.pos (by omega);have e5:bx L (i*5) 5=some [aA r.name,.int .i64 r.kind,bP,aA r.rhs,aA r.kp]:=by rw[Q.row aJ,N];rfl
 obtain⟨B,D,f,_⟩:=id O;subst f;obtain⟨q,p⟩:∃q,q=H.next:=⟨_,rfl⟩;obtain⟨a,t⟩:∃E,E=(H.new (.cells [.string ⟨#[]⟩,.int .i64 0,.slice none 0 0,.string ⟨#[]⟩,.string ⟨#[]⟩] (.t yP))).put q (.cells [aA r.name,.int .i64 r.kind,.slice B r.j.length D,aA r.rhs,aA r.kp] (.t yP)):=⟨_,rfl⟩;have e:K pm H a:=by rw[t,p];exact ic g _ _
 have c:=e.h;have ad:a.get q=some (.cells [aA r.name,.int .i64 r.kind,.slice B r.j.length D,aA r.rhs,aA r.kp] (.t yP)):=by rw[t];exact b1
 have ae:∀F,(H.new F).get q=some F:=λF=>by rw[p];exact b4
 have af:pm.may q=true:=g.may (by omega);have F:a.next=q+1:=by rw[t,p];rfl
 have G:=e.some g s.x;have ag:=e.some g P;obtain⟨z,u⟩:∃z,z=a.next:=⟨_,rfl⟩;have I:K pm a (a.up 9):=(K.refl c).up 9;have S:=λj=>(by rw[u];exact c.none j:(a.up 9).get (z+j)=none);have ai:=(by rw[u];exact c.J:(a.up 9).get z=none);rw[n]at G;simp[n,P,aJ,e5,g.pick,g.make,ptr,bB,<-p,ae,af,setCells,<-t];refine cy.of c.ah rfl ?_;rw[<-u];simp[b7,S,ai,G,ad];refine eM I.h (az:=[.slice B r.j.length D]) (by simp[S]) rfl (λ_ p=>vO (w:=2) (cc:=24) Y.nk p (O.imp ((K.trans s.k (K.trans e I)).ext M) λ_ _ _ h=>h) Z (λi _ ⟨_,_,f⟩=>by rw[f];rfl)) ?_;rintro A J p ⟨al,T,hf⟩;have t:=p.h;have v:K pm a J:=K.trans I p;have t:=v.some c G;have U:=v.some c ag;have V:=p.res c;obtain⟨k,f⟩:=T.form;subst f;have sc:setCells L (i*5+2) [.slice k r.j.length r.j.length]=some (L.set (i*5+2) (.slice k r.j.length r.j.length)):=setCells_one (Q.lt aJ (show 2<5 by decide));obtain⟨W,x⟩:∃E,E=J.put l (.cells (L.set (i*5+2) (.slice k r.j.length r.j.length)) (.n 5)):=⟨_,rfl⟩;have c:=λq=>eG (ah:=pm.ah) (ok:=pm.ok) (o:=q) (b:=l) (by have:=M.ah;omega);have f:l<z:=by omega
 have p:cb<z:=by omega
 have t:q<z:=by omega
 rw[<-u]at V;simp[V,aJ,sc,U,c,<-x,cj,cd,jT,dM,ed,f,p,t];have c:lb pm aj W bl cb ak cf fR mc jJ ab (λj=>if j=i then r.cells (.slice k r.j.length r.j.length) else cB j):=by
  rw[x];exact(s.up (K.trans e v)).row d aJ (by decide) (by simp[N,bQ.cells]) (λj _ h=>by simp[h]) n U
 refine hR _ _ _ (by simp[n]) c ?_ λb y _ h=>?_
 ·have b:dR W (a.up 9).next J.next (.slice k r.j.length r.j.length) r.j.length 2 al:=by
   rw[x];exact T.put (.inl (by show l<a.next+9;omega)) _
  exact(b.e hf).mono (by show fR<=a.next+9;omega) λ_ _ _ h=>h
 ·rw[x,a7];exact(K.trans e v).some g h
theorem tX(D:vR X)(g:bs pm H){v:Value}{ab:aI}{ak:Nat}(R:fC H ak v ab)(hc:ab.a.length<=1000)(hr:ab.rows.length<=1000)(au:∀i,i<ab.rows.length->(ab.row i).j.length<=1000):
 Call X pm F.jS [v] H λr aa=>K pm H aa/\hD aa H.next r ab:=by
 refine Call.P D.jS rfl λ_ hQ=>?_;obtain⟨_,_,rfl,Y,Z⟩:=R;obtain⟨L,M,q,_⟩:=id Y;obtain⟨N,O,k,_⟩:=id Z;subst q k;obtain⟨E,P⟩:∃b,b=H.next:=⟨_,rfl⟩;obtain⟨l,G⟩:∃l,l=H.new (.cells [.slice L ab.a.length M,.slice N ab.rows.length O] (.t ga)):=⟨_,rfl⟩;have k1:K pm H l:=by rw[G];exact K.new g _
 have g1:=k1.h;have av:l.get E=some (.cells [.slice L ab.a.length M,.slice N ab.rows.length O] (.t ga)):=by rw[G,P];exact b4
 obtain⟨bl,Q⟩:∃b,b=l.next:=⟨_,rfl⟩;obtain⟨d,I⟩:∃d,d=l.new (.cells [.slice none 0 0,.slice none 0 0] (.t ga)):=⟨_,rfl⟩;have R:K pm l d:=by rw[I];exact K.new g1 _
 have s:=R.h;have aw:d.get bl=some (.cells [.slice none 0 0,.slice none 0 0] (.t ga)):=by rw[I,Q];exact b4
 have ad:=R.some g1 av;have ae:=k1.trans R;have cf:l.next=E+1:=by rw[G,P];rfl
 have fR:d.next=bl+1:=by rw[I,Q];rfl
 obtain⟨z,J⟩:∃z,z=d.next:=⟨_,rfl⟩;have kU:K pm d (d.up 9):=(K.refl s).up 9;have S:=λj=>(by rw[J];exact s.none j:(d.up 9).get (z+j)=none);have ax:=(by rw[J];exact s.J:(d.up 9).get z=none);obtain⟨t,y⟩:∃A,A=(d.up 9).put (z+4) (.cells [.slice none 0 0,.slice none 0 0] (.t ga)):=⟨_,rfl⟩;have B:K pm d t:=by rw[y];exact aF.fill kU (by omega) (S 4) (by show z+4<d.next+9;omega) _
 have d:t.next=z+9:=by rw[y,J];rfl
 have af:∀j,j≠4->t.get (z+j)=none:=λj a=>by rw[y,a7];exact S j
 have ay:t.get (z+4)=some (.cells [.slice none 0 0,.slice none 0 0] (.t ga)):=by rw[y];exact b1
 have ag:=B.h;have d:=B.some s ad;simp[g.pick,g.make,ptr,<-P,<-G,  <-Q,<-I,-rL];refine cy.of s.ah rfl ?_;rw[<-J];simp[b7,S,ax,ad,Perm.make,Perm.pick,ptr,<-y,-rL];refine eM ag (az:=[.slice L ab.a.length M]) (by simp[af]) rfl (λaA T=>vO (w:=5) (cc:=72) D.pI T (Y.imp ((ae.trans B).ext g) λ_ _ _ h=>h) hc (λi cs ⟨c,_,e⟩=>by rw[e];rfl)) ?_;rintro mc u C ⟨_,c1,aB⟩;have g3:=C.h;have ai:=K.trans ae (K.trans B C);have aC:=C.next;have aj:∀j,j<9->j≠4->u.get (z+j)=none:=λj a U=>(C.get _ (by omega)).trans (af j U);simp[-rL];refine eM g3 (az:=[.slice N ab.rows.length O]) (by simp[aj]) rfl (λaA T=>vO (w:=5) (cc:=80) D.pJ T (Z.imp (ai.ext g) λ_ _ _ h=>h) hr (λi cs ⟨r,bP,_,e,_,_,V,_⟩=>by rw[e,V];rfl)) ?_;rintro jJ m x ⟨W,c2,aD⟩;have d:=x.h;have al:=K.trans C x;have aE:=K.trans ai x;have an:=x.next;have aG:∀j,j<9->j≠4->m.get (z+j)=none:=λj a U=>(x.get _ (by omega)).trans (aj j a U);have ao:=al.some ag ay;obtain⟨n,e⟩:=c1.form;subst e;obtain⟨f,e⟩:=c2.form;subst e;have d:z+4<m.next:=by omega
 have aH:=λo=>eG (ah:=pm.ah) (ok:=pm.ok) (o:=o) (b:=z+4) (by have:=s.ah;omega);obtain⟨A2,aq⟩:∃A,A=m.put (z+4) (.cells [.slice n ab.a.length ab.a.length,.slice f ab.rows.length ab.rows.length] (.t ga)):=⟨_,rfl⟩;have d:E<z:=by omega
 have l:du [z+4] [E]=true:=fq (by omega);simp[aG,ao,setCells,bB,aH,<-aq,l,cj,cd,jT,dM,ed,d,-rL];have cx:∀j,j<ab.rows.length->∃v,W j=(ab.row j).cells v/\dk H ak v (ab.row j).j.length 2 (jm (ab.row j).j):=λj a=>by
  obtain⟨r,bP,q,k,V⟩:=aD j a;rw[aI.rowAt a]at q;cases q;exact⟨bP,k,V⟩
 obtain⟨p,ar⟩:∃p:Nat->Value,∀j,j<ab.rows.length->W j=(ab.row j).cells (p j)/\dk H ak (p j) (ab.row j).j.length 2 (jm (ab.row j).j):=by
  have:∀j,∃v,j<ab.rows.length->W j=(ab.row j).cells v/\dk H ak v (ab.row j).j.length 2 (jm (ab.row j).j):=λj=>by
   by_cases a:j<ab.rows.length
   ·obtain⟨v,b⟩:=cx j a;exact⟨v,λ_=>b⟩
   ·exact⟨.bool true,λh=>absurd h a⟩
  exact⟨λj=>(this j).choose,λj=>(this j).choose_spec⟩
 have o:y5 H bl (z+4) t.next u.next m.next:=⟨by omega,by omega,by omega,aC,an⟩;have s0:lb pm H A2 bl (z+4) t.next u.next m.next (.slice n ab.a.length ab.a.length) (.slice f ab.rows.length ab.rows.length) ab (λj=>(ab.row j).cells (p j)):=by
  rw[aq];refine⟨aF.put aE (by omega) ao (by simp) _,?_,b1,?_,?_,bg _⟩
  ·rw[a7];exact(K.trans B al).some s aw
  ·refine((c1.ext (x.ext g3)).congr λj a=>?_).put (.inl (by omega)) _;obtain⟨c,q,k⟩:=aB j a;rw[aI.jv a]at q;cases q;exact k.symm
  ·exact(c2.congr λj a=>(ar j a).1.symm).put (.inl (by omega)) _
 have d:=s0.x;simp[d,-Al,-Am]
 refine eE (σ:=Nat->Value) ab.rows.length (λ_ _=>[(2,.pointer (some ⟨bl,0,none⟩)),(3,.pointer (some ⟨z+4,0,none⟩)),(14,.slice f ab.rows.length ab.rows.length)])
  (λi b aa=>lb pm H aa bl (z+4) t.next u.next m.next (.slice n ab.a.length ab.a.length) (.slice f ab.rows.length ab.rows.length) ab (λj=>(ab.row j).cells (if j<i then b j else p j))/\
   ∀j,j<i->dk aa m.next (b j) (ab.row j).j.length 2 (jm (ab.row j).j))
  (λ_=>.bool true) (by simp) ⟨by simpa using s0,λj a=>absurd a (hz _)⟩ ?_ ?_
 ·rintro i b _ c ⟨d,v⟩;refine ND D g o d c (r:=ab.row i) (bP:=p i) (m0:=ak) (by simp) (ar i c).2 (au i c) ?_;intro _ _ c d w F H;refine⟨λj=>if j=i then c else b j,d,?_,λj a=>?_⟩
  ·have e:(λj=>if j=i then(ab.row i).cells c else(ab.row j).cells (if j<i then b j else p j))=(λj=>(ab.row j).cells (if j<i+1 then(if j=i then c else b j) else p j)):=by
    funext j;by_cases e:j=i
    ·subst e;simp
    ·by_cases k:j<i
     ·simp[e,k,show j<i+1 by omega]
     ·simp[e,k,show ¬j<i+1 by omega]
   rw[<-e];exact w
  ·by_cases e:j=i
   ·subst e;simpa using F
   ·simp only[e,if_false];exact(v j (by omega)).qt H λ_ _ _ h=>h
 ·rintro F d ⟨r,X⟩;have xB:=r.x;have v:=r.r;have aa:pm.may bl=true:=g.may (by omega);obtain⟨w,i⟩:∃A,A=d.put bl (.cells [.slice n ab.a.length ab.a.length,.slice f ab.rows.length ab.rows.length] (.t ga)):=⟨_,rfl⟩;simp[xB,v,bx,bB,setCells,aa,<-i];refine hQ _ _ _ ?_;have d:w.get bl=some (.cells [.slice n ab.a.length ab.a.length,.slice f ab.rows.length ab.rows.length] (.t ga)):=by rw[i];exact b1
  have e:K pm H w:=by rw[i];exact aF.put r.k (by omega) v (by simp) _
  simp[dG,d,bx,bB];have d:=o.bX;have d:=o.cv;have d:=o.cF;refine⟨e,_,_,u.next,m.next,F,rfl,by omega,an,?_,?_,λj a=>?_⟩
  ·have:=(r.c.put (c:=bl) (.inl (by omega)) (.cells [.slice n ab.a.length ab.a.length,.slice f ab.rows.length ab.rows.length] (.t ga))).mono (BI:=H.next) (AX:=u.next) (by omega) (bg _);rw[<-i]at this;exact this
  ·have b:=(r.w.put (c:=bl) (.inl (by omega)) (.cells [.slice n ab.a.length ab.a.length,.slice f ab.rows.length ab.rows.length] (.t ga)));rw[<-i]at b;exact b.congr λj a=>by simp[a]
  ·have c:=((X j a).put (b:=bl) (by omega) (.cells [.slice n ab.a.length ab.a.length,.slice f ab.rows.length ab.rows.length] (.t ga)) λ_ _ _ h=>h);rw[<-i]at c;exact c
end Go.Dam.C
namespace Go.Dam.C
open Go Go.Dam
variable{X:ar}{pm:Perm}{H aa bL aj:ad}{n:Nat}
structure tg(X:ar):Prop extends vR X where
 nN:Has X F.nN C.nN
 mC:Has X F.mC C.mC
 nL:Has X F.nL C.nL
abbrev eW:Nat:=T.NP
abbrev pT:Nat:=T.NQ
abbrev y2:Value:=.agg #[.int .i64 0,.string ⟨#[]⟩,.slice none 0 0,.slice none 0 0,.slice none 0 0]
def ey(H:ad)(p ak:Nat)(ab:aI):Prop:=∃a b,H.get p=some (.cells [a,b] (.t pT))/\fC H ak (.agg #[a,b]) ab
theorem ey.ext{p ak:Nat}{ab:aI}(h:ey H p ak ab)(e:Ext H aa):ey aa p ak ab:=by
 obtain⟨a,b,c,d⟩:=h;exact⟨a,b,e _ _ c,d.ext e⟩
theorem ey.mono{p ak cf:Nat}{ab:aI}(h:ey H p ak ab)(e:cf<=ak):ey H p cf ab:=by
 obtain⟨a,b,c,d⟩:=h;exact⟨a,b,c,d.mono e⟩
theorem ey.put{p c ak:Nat}{ab:aI}(h:ey H p ak ab)(a:c<ak)(a:c≠p)(x:bk):ey (H.put c x) p ak ab:=by
 obtain⟨b,c,d,e⟩:=h;exact⟨b,c,by rw[a7 (h:=Ne.symm a)];exact d,e.put (by omega) x⟩
structure fO(pm:Perm)(p:Nat)(H aa:ad):Prop where
 h:bs pm aa
 next:H.next<=aa.next
 get:∀b,b<H.next->b≠p->aa.get b=H.get b
 cr:∀b o,H.get b=some (.cr o)->aa.get b=some (.cr o)
theorem K.jx{p:Nat}(k:K pm H aa):fO pm p H aa:=⟨k.h,k.next,λb a _=>k.get b a,k.cr⟩
theorem fO.trans{p:Nat}(k:fO pm p H aa)(l:fO pm p aa bL):fO pm p H bL:=⟨l.h,aY k.next l.next,λb a c=>(l.get b (eC a k.next) c).trans (k.get b a c),λb o h=>l.cr b o (k.cr b o h)⟩
theorem fO.put{p:Nat}{cs:List Value}{z:cz}(g:bs pm H)(AW:H.get p=some (.cells cs z))(x:bk):fO pm p H (H.put p x):=by
 have u:=aF.put (n:=p) (.refl g) (bg _) AW (by simp) x;exact⟨u.h,u.next,λ_ _ a=>a7 (h:=a),u.cr⟩
theorem fO.some{p b:Nat}{y:bk}(k:fO pm p H aa)(g:bs pm H)(a:b≠p)(h:H.get b=some y):aa.get b=some y:=(k.get b (g.lt h) a).trans h
theorem fO.up{p:Nat}(k:fO pm p H aa)(a:n<=p)(a:n<=H.next):aF pm n H aa:=⟨k.h,k.next,λb _=>k.get b (by omega) (by omega),k.cr⟩
theorem fO.fin{p c:Nat}{cs:List Value}{z:cz}(k:fO pm p H aa)(a:H.next<=c)(AW:aa.get c=Option.some (.cells cs z))(x:bk):fO pm p H (aa.put c x):=by
 have u:=aF.put (n:=0) (.refl k.h) (Nat.zero_le _) AW (by simp) x;exact⟨u.h,aY k.next u.next,λb a c=>by rw[a7];exact k.get b a c,λb o h=>u.cr b o (k.cr b o h)⟩
theorem NN(Q:tg X)(g:bs pm H){v:Value}{ab:aI}{ak:Nat}(W:fC H ak v ab)(C:d' ab)(ay:∀i,i<ab.rows.length->(ab.row i).j.length<=1000):
 Call X pm F.nN [v] H λr aa=>K pm H aa/\(ab.I=false/\r=.tuple #[.pointer none,y2,.bool false]∨ab.I=true/\∃p a u,r=.tuple #[.pointer (some ⟨p,0,none⟩),u,.bool true]/\H.next<=p/\ey aa p (p+1) ab/\iK aa H.next u a/\lq ab a):=by
 refine Call.P Q.nN rfl λ_ hQ=>?_;have af:=W;obtain⟨_,_,rfl,Y,h2⟩:=W;obtain⟨D,E,R,_⟩:=id Y;obtain⟨G,I,S,_⟩:=id h2;subst R S;obtain⟨T,U⟩:∃b,b=H.next:=⟨_,rfl⟩;obtain⟨h,J⟩:∃h,h=H.new (.cells [.slice D ab.a.length E,.slice G ab.rows.length I] (.t ga)):=⟨_,rfl⟩;have k1:K pm H h:=by rw[J];exact K.new g _
 have g1:=k1.h;have ai:h.get T=some (.cells [.slice D ab.a.length E,.slice G ab.rows.length I] (.t ga)):=by rw[J,U];exact b4
 obtain⟨d,V⟩:∃b,b=h.next:=⟨_,rfl⟩;obtain⟨t,L⟩:∃t,t=h.new (.cells [.int .i64 0,.string ⟨#[]⟩,.slice none 0 0,.slice none 0 0,.slice none 0 0] (.t eW)):=⟨_,rfl⟩;have W:K pm h t:=by rw[L];exact K.new g1 _
 have Y:=W.h;have aB:t.get d=some (.cells [.int .i64 0,.string ⟨#[]⟩,.slice none 0 0,.slice none 0 0,.slice none 0 0] (.t eW)):=by rw[L,V];exact b4
 have ag:=W.some g1 ai;have ai:=k1.trans W;have cf:h.next=T+1:=by rw[J,U];rfl
 have h:t.next=d+1:=by rw[L,V];rfl
 have aC:pm.may d=true:=g.may (by omega);simp[g.pick,g.make,ptr,<-U,<-J,  <-V,<-L,ag,bx,bB,-Af,-Ag];refine aq.of (az:=[.agg #[.slice D ab.a.length E,.slice G ab.rows.length I]]) (Ga Q.toep Y C.ok (af.ab.ext (ai.ext g)) (λx=>KO C x)) ?_;rintro _ k ⟨h,h3⟩;have e:=h.h;have aj:=ai.trans h;have ak:=h.some Y aB;have aD:=h.some Y ag;have J:=h.next;obtain⟨i,w⟩:∃b,b=k.next:=⟨_,rfl⟩;have al:pm.may i=true:=e.may (by omega);have an:∀h,(k.new h).get i=some h:=λh=>by rw[w];exact b4
 rcases h3 with⟨x,rfl⟩ | ⟨x,a,u,rfl,hu,hL⟩
 ·obtain⟨b,c⟩:∃A,A=(k.new (.cells [.int .i64 0,.string ⟨#[]⟩,.slice none 0 0,.slice none 0 0,.slice none 0 0] (.t eW))).put i (.cells [.int .i64 0,.string ⟨#[]⟩,.slice none 0 0,.slice none 0 0,.slice none 0 0] (.t eW)):=⟨_,rfl⟩;have f:K pm k b:=by rw[c,w];exact ic e _ _
  have g:=f.some e ak;obtain⟨j,a⟩:∃A,A=b.put d (.cells [.int .i64 0,.string ⟨#[]⟩,.slice none 0 0,.slice none 0 0,.slice none 0 0] (.t eW)):=⟨_,rfl⟩;have b:K pm H j:=by rw[a];exact aF.put (K.trans aj f) (by omega) g (by simp) _
  have f:j.get d=some (.cells [.int .i64 0,.string ⟨#[]⟩,.slice none 0 0,.slice none 0 0,.slice none 0 0] (.t eW)):=by rw[a];exact b1
  simp[e.pick,e.make,ptr,bB,<-w,an,al,setCells,<-c,g,aC,<-a,fill,-Ae];refine hQ _ _ _ ?_;simp[dG,f,bx,bB,x];exact b
 ·obtain⟨_,_,_,rfl,ao,aq,ar⟩:=hu;obtain⟨l,m,R,_⟩:=ao.1.ex;obtain⟨n,p,S,_⟩:=aq.1.ex;obtain⟨q,r,e3,_⟩:=ar.1.ex;subst R S e3;have hu:iK k t.next (.agg #[.int .i64 a.st,aA a.val,.slice l a.x.length m,.slice n a.d.length p,.slice q a.r.length r]) a:=⟨_,_,_,rfl,ao,aq,ar⟩;obtain⟨f,F⟩:∃A,A=(k.new (.cells [.int .i64 0,.string ⟨#[]⟩,.slice none 0 0,.slice none 0 0,.slice none 0 0] (.t eW))).put i (.cells [.int .i64 a.st,aA a.val,.slice l a.x.length m,.slice n a.d.length p,.slice q a.r.length r] (.t eW)):=⟨_,rfl⟩;have v:K pm k f:=by rw[F,w];exact ic e _ _
  have u:=v.h;have h:f.next=i+1:=by rw[F,w];rfl
  have aE:f.get i=some (.cells [.int .i64 a.st,aA a.val,.slice l a.x.length m,.slice n a.d.length p,.slice q a.r.length r] (.t eW)):=by rw[F];exact b1
  have aG:=v.some e ak;have aH:=v.some e aD;have au:=K.trans aj v;obtain⟨z,y⟩:∃z,z=f.next:=⟨_,rfl⟩;have X:K pm f (f.up 8):=(K.refl u).up 8;have av:=λj=>(by rw[y];exact u.none j:(f.up 8).get (z+j)=none);have aI:=(by rw[y];exact u.J:(f.up 8).get z=none);simp[e.pick,e.make,ptr,bB,<-w,an,al,setCells,<-F];refine cy.of u.ah rfl ?_;rw[<-y];simp[b7,av,aI,aH,aE,bx,bB];refine eM X.h (az:=[.agg #[.slice D ab.a.length E,.slice G ab.rows.length I]]) (by simp[av]) rfl (λ_ h=>tX Q.tovR h (af.ext ((K.trans au X).ext g)) (by have:=C.n;omega) (by have:=C.m;omega) ay) ?_;rintro _ H5 M Z;have h:=M.h;have aJ:=K.trans X M;have N:=M.res u;rw[<-y]at N;have h:(f.up 8).next=z+8:=by rw[y];rfl
  rw[h]at Z;obtain⟨_,_,_,rfl,_,h,c2⟩:=Z.gp;obtain⟨aa,ad⟩:=h.form;subst ad;obtain⟨b2,ae,ad,_⟩:=id c2;subst ad;have h:=M.next;obtain⟨O,B⟩:∃A,A=H5.put (z+4) (.cells [.slice aa ab.a.length ab.a.length,.slice b2 ab.rows.length ae] (.t pT)):=⟨_,rfl⟩;have P:K pm f O:=by rw[B];exact aF.fill aJ (by omega) (N 4 (by decide)) (by omega) _
  have f:=P.h;have aw:=P.some u aG;have aK:O.get (z+4)=some (.cells [.slice aa ab.a.length ab.a.length,.slice b2 ab.rows.length ae] (.t pT)):=by rw[B];exact b1
  have ax:∀j,j<8->j≠4->O.get (z+j)=none:=λj f _=>by rw[B,a7];exact N j f
  obtain⟨H7,s⟩:∃A,A=O.put d (.cells [.int .i64 a.st,aA a.val,.slice l a.x.length m,.slice n a.d.length p,.slice q a.r.length r] (.t eW)):=⟨_,rfl⟩;have f:T<z:=by omega
  have h:d<z:=by omega
  have j:i<z:=by omega
  have k:=λo=>eG (ah:=pm.ah) (ok:=pm.ok) (o:=o) (b:=d) (by have:=g.ah;omega);have t:du [z+4] [i]=true:=fq (by omega);simp[N,fill,setCells,bB,Perm.make,Perm.pick,ptr,<-B,ax,aw,k,<-s,t,cj,cd,jT,dM,ed,f,h,j];refine⟨by rw[s,a7];exact ax 7 (by decide) (by decide),?_⟩;have f:K pm H H7:=by rw[s];exact aF.put (K.trans au P) (by omega) aw (by simp) _
  have h:H7.get d=some (.cells [.int .i64 a.st,aA a.val,.slice l a.x.length m,.slice n a.d.length p,.slice q a.r.length r] (.t eW)):=by rw[s];exact b1
  refine hQ _ _ _ ?_;simp[dG,h,bx,bB,x];refine⟨f,z+4,a,_,⟨rfl,rfl⟩,by omega,⟨_,_,by rw[s,a7];exact aK,?_⟩,?_,hL⟩
  ·have h:=(((Z.e).put (b:=z+4) (by omega) (.cells [.slice aa ab.a.length ab.a.length,.slice b2 ab.rows.length ae] (.t pT))).put (b:=d) (by omega) (.cells [.int .i64 a.st,aA a.val,.slice l a.x.length m,.slice n a.d.length p,.slice q a.r.length r] (.t eW))).mono (cf:=z+4+1) (by omega);rw[<-B,<-s]at h;exact h
  ·have h:=((hu.ext ((K.trans v P).ext e)).put (c:=d) (by omega) (.cells [.int .i64 a.st,aA a.val,.slice l a.x.length m,.slice n a.d.length p,.slice q a.r.length r] (.t eW))).mono (cf:=H.next) (by omega);rw[<-s]at h;exact h
def nE(pm:Perm)(p ak:Nat)(H:ad)(ab:aI)(r:Value)(aa:ad):Prop:=
 ab.I=false/\K pm H aa/\r=.tuple #[y2,.bool false]∨ab.I=true/\fO pm p H aa/\ey aa p ak ab/\∃a u,r=.tuple #[u,.bool true]/\iK aa H.next u a/\lq ab a
theorem Ly(w:tg X)(g:bs pm H){p ak cf:Nat}{ah ab:aI}{v:Value}(hp:pm.may p=true)(ai:p<ak)(hs:ey H p cf ah)(D:fC H ak v ab)(x:d' ab):
 Call X pm F.mC [.pointer (some ⟨p,0,none⟩),v] H (nE pm p ak H ab):=by
 refine Call.P w.mC rfl λ_ R=>?_;have y:=D;obtain⟨_,_,rfl,h1,h2⟩:=D;obtain⟨c,d,z,_⟩:=id h1;obtain⟨e,f,A,_⟩:=id h2;subst z A;obtain⟨_,_,S,_⟩:=hs;have D:=g.lt S;obtain⟨T,B⟩:∃n,n=H.next:=⟨_,rfl⟩;obtain⟨b,o⟩:∃b,b=H.new (.cells [.slice c ab.a.length d,.slice e ab.rows.length f] (.t ga)):=⟨_,rfl⟩;have U:K pm H b:=by rw[o];exact K.new g _
 have V:=U.h;have aj:b.get T=some (.cells [.slice c ab.a.length d,.slice e ab.rows.length f] (.t ga)):=by rw[o,B];exact b4
 obtain⟨h,C⟩:∃n,n=b.next:=⟨_,rfl⟩;obtain⟨i,q⟩:∃i,i=b.new (.cells [.int .i64 0,.string ⟨#[]⟩,.slice none 0 0,.slice none 0 0,.slice none 0 0] (.t eW)):=⟨_,rfl⟩;have D:K pm b i:=by rw[q];exact K.new V _
 have E:=D.h;have al:i.get h=some (.cells [.int .i64 0,.string ⟨#[]⟩,.slice none 0 0,.slice none 0 0,.slice none 0 0] (.t eW)):=by rw[q,C];exact b4
 have W:=D.some V aj;have Y:=U.trans D;have cf:b.next=T+1:=by rw[o,B];rfl
 have b:i.next=h+1:=by rw[q,C];rfl
 have Z:pm.may h=true:=g.may (by omega);simp[g.pick,g.make,ptr,<-B,<-o,  <-C,<-q,W,bx,bB,-wS,-Ap];refine aq.of (az:=[.agg #[.slice c ab.a.length d,.slice e ab.rows.length f]]) (zf w.toiO E (y.ab.ext (Y.ext g)) x.ok) ?_;rintro _ G ⟨j,rfl⟩;have I:=j.h;have r:=Y.trans j;have J:=j.some E al;have aa:=j.some E W;have b:=j.next;have ad:=r.some g S
 cases k:ab.I with
 | false=>
   obtain⟨g,a⟩:∃b,b=G.put h (.cells [.int .i64 0,.string ⟨#[]⟩,.slice none 0 0,.slice none 0 0,.slice none 0 0] (.t eW)):=⟨_,rfl⟩;have b:K pm H g:=by rw[a];exact aF.put r (by omega) J (by simp) _
   have i:g.get h=some (.cells [.int .i64 0,.string ⟨#[]⟩,.slice none 0 0,.slice none 0 0,.slice none 0 0] (.t eW)):=by rw[a];exact b1
   simp[fill,bB,setCells,J,Z,<-a,-wS];refine R _ _ _ ?_;simp[dG,i,bx,bB,nE,k];exact b
 | true=>
   obtain⟨s,t⟩:∃F,F=G.put p (.cells [.slice c ab.a.length d,.slice e ab.rows.length f] (.t pT)):=⟨_,rfl⟩;have l:fO pm p G s:=by rw[t];exact fO.put I ad _
   have L:=l.h;have b:=l.some I (by omega) J;have i:=l.some I (by omega) aa;have an:s.get p=some (.cells [.slice c ab.a.length d,.slice e ab.rows.length f] (.t pT)):=by rw[t];exact b1
   have ao:=(K.jx (p:=p) r).trans l;have j:fC s ak (.agg #[.slice c ab.a.length d,.slice e ab.rows.length f]) ab:=by
    rw[t];exact(y.ext (r.ext g)).put ai _
   simp[aa,bx,bB,ad,hp,setCells,<-t,i,-Ao];refine aq.of (az:=[.agg #[.slice c ab.a.length d,.slice e ab.rows.length f]]) (Ga w.toep L x.ok j.ab (λk=>KO x k)) ?_;rintro _ X ⟨v,h5⟩;have c:=v.h;have ae:=v.some L b
   rcases h5 with⟨H0,_⟩ | ⟨_,a,u,rfl,hu,OQ⟩
   ·rw[k]at H0;cases H0
   ·obtain⟨_,_,_,rfl,ab,af,ag⟩:=hu;obtain⟨u,M,z,_⟩:=ab.1.ex;obtain⟨N,O,A,_⟩:=af.1.ex;obtain⟨P,Q,e3,_⟩:=ag.1.ex;subst z A e3;have hu:iK X s.next (.agg #[.int .i64 a.st,aA a.val,.slice u a.x.length M,.slice N a.d.length O,.slice P a.r.length Q]) a:=⟨_,_,_,rfl,ab,af,ag⟩;obtain⟨H6,m⟩:∃F,F=X.put h (.cells [.int .i64 a.st,aA a.val,.slice u a.x.length M,.slice N a.d.length O,.slice P a.r.length Q] (.t eW)):=⟨_,rfl⟩;simp[setCells,ae,Z,<-m];have c:H6.get h=some (.cells [.int .i64 a.st,aA a.val,.slice u a.x.length M,.slice N a.d.length O,.slice P a.r.length Q] (.t eW)):=by rw[m];exact b1
    have d:=ao.trans (K.jx (p:=p) v);have b:=l.next;have b:fO pm p H H6:=by rw[m];exact d.fin (by omega) ae _
    refine R _ _ _ ?_;simp[dG,c,bx,bB,nE,k];refine⟨b,⟨_,_,by rw[m,a7];exact v.some L an,y.jY λn _ _ h=>b.some g (by omega) h⟩,a,?_,OQ⟩;rw[m];exact(hu.put (by omega) _).mono (by omega)
def aI.kr(ab:aI)(k:Nat)(ah up:List UInt8):aI:={ab with a:=ab.a.set k {ab.af k with low:=ah,up:=up}}
theorem sT{ab:aI}{k:Nat}{ah up:List UInt8}:(ab.kr k ah up).a.length=ab.a.length:=by simp[aI.kr]
theorem K3{ab:aI}{k j:Nat}{ah up:List UInt8}(a:j<ab.a.length):(ab.kr k ah up).af j=if j=k then{ab.af k with low:=ah,up:=up} else ab.af j:=by
 unfold aI.kr aI.af;by_cases e:j=k
 ·subst e;simp[a]
 ·simp[sz (Ne.symm e),e]
theorem SC{ab:aI}{k:Nat}{ah up:List UInt8}(h:d' ab)(b:k<ab.a.length)(e:ah.length<=30)(e:up.length<=30):d' (ab.kr k ah up):=by
 refine⟨by rw[sT];exact h.n,h.m,λ_ c=>?_,h.r⟩;obtain⟨j,a,rfl⟩:=u5 c;rw[sT]at a;have e:=aI.jv (ab:=ab.kr k ah up) (i:=j) (by rw[sT];exact a);rw[eu (by rw[sT];exact a)]at e;rw[jF e,K3 a];have d:=h.c _ (eB (aI.jv b));have f:=h.c _ (eB (aI.jv a));split
 ·exact⟨by simpa using(show ah.length<=30 by omega),by simpa using(show up.length<=30 by omega),d.2.2⟩
 ·exact f
theorem LV(V:tg X)(g:bs pm H){p ak:Nat}{ab:aI}{af:Int}{ah up:List UInt8}(hp:pm.may p=true)(hs:ey H p ak ab)(W:d' ab)(au:∀i,i<ab.rows.length->(ab.row i).j.length<=1000)(av:ah.length<=30)(aw:up.length<=30):
 Call X pm F.nL [.pointer (some ⟨p,0,none⟩),.int .i64 af,aA ah,aA up] H λr aa=>((af<0∨(ab.a.length:Int)<=af)/\K pm H aa/\r=.tuple #[y2,.bool false])∨∃k:Nat,af=k/\k<ab.a.length/\nE pm p H.next H (ab.kr k ah up) r aa:=by
 refine Call.P V.nL rfl λ_ I=>?_;obtain⟨_,_,Z,ai⟩:=id hs;obtain⟨_,_,m,Y,J⟩:=id ai;cases m;obtain⟨ax,ay,m,_⟩:=id Y;subst m;obtain⟨b2,aB,m,_⟩:=id J;subst m;have ak:=g.lt Z;obtain⟨c,x⟩:∃b,b=H.next:=⟨_,rfl⟩;obtain⟨v,w⟩:∃A,A=H.new (.cells [.int .i64 0,.string ⟨#[]⟩,.slice none 0 0,.slice none 0 0,.slice none 0 0] (.t eW)):=⟨_,rfl⟩;have y:K pm H v:=by rw[w];exact K.new g _
 have g1:=y.h;have n1:v.next=c+1:=by rw[w,x];rfl
 have L:v.get c=some (.cells [.int .i64 0,.string ⟨#[]⟩,.slice none 0 0,.slice none 0 0,.slice none 0 0] (.t eW)):=by rw[w,x];exact b4
 have aj:=y.some g Z;have M:pm.may c=true:=g.may (by omega);have zero:K pm H (v.put c (.cells [.int .i64 0,.string ⟨#[]⟩,.slice none 0 0,.slice none 0 0,.slice none 0 0] (.t eW))):=aF.put y (by omega) L (by simp) _;have ak:(v.put c (.cells [.int .i64 0,.string ⟨#[]⟩,.slice none 0 0,.slice none 0 0,.slice none 0 0] (.t eW))).get c=some (.cells [.int .i64 0,.string ⟨#[]⟩,.slice none 0 0,.slice none 0 0,.slice none 0 0] (.t eW)):=b1;by_cases Z:af<0
 ·simp[g.pick,g.make,ptr,<-x,<-w,Z,bz,fill,bB,setCells,L,M,-wP];refine I _ _ _ ?_;simp[dG,ak,bx,bB,Z];exact .inl zero
 by_cases h1:(ab.a.length:Int)<=af
 ·simp[g.pick,g.make,ptr,<-x,<-w,Z, bz,fill,bB,setCells,L,M,aj,show ¬af<(ab.a.length:Int) by omega,-wP];refine I _ _ _ ?_;simp[dG,ak,bx,bB,h1];exact .inl zero
 obtain⟨k,rfl⟩:∃k:Nat,af=k:=⟨af.toNat,by omega⟩;have e:k<ab.a.length:=by omega
 simp[g.pick,g.make,ptr,<-x,<-w,e,bz,bB,bx,aj,-z',-Ab];refine aq.of (az:=[.agg #[.slice ax ab.a.length ay,.slice b2 ab.rows.length aB]]) (tX V.tovR g1 (ai.ext (y.ext g)) (by have:=W.n;omega) (by have:=W.m;omega) au) ?_;rintro _ N ⟨O,ow⟩;obtain⟨_,_,nn,rfl,_,d1,d2⟩:=ow.gp;have n:=O.h;have w:=O.next;obtain⟨a,al,l1,l2,rfl,hL,cL⟩:=d1.pos (by omega);obtain⟨B,C,m,_⟩:=id d2;subst m;obtain⟨h,Q⟩:∃b,b=N.next:=⟨_,rfl⟩;have aC:pm.may h=true:=n.may (by omega);have aD:∀x,(N.new x).get h=some x:=λx=>by rw[Q];exact b4
 obtain⟨f,R⟩:∃A,A=(N.new (.cells [.slice none 0 0,.slice none 0 0] (.t ga))).put h (.cells [.slice (some ⟨a,0,none⟩) ab.a.length ab.a.length,.slice B ab.rows.length C] (.t ga)):=⟨_,rfl⟩;have D:K pm N f:=by rw[R,Q];exact ic n _ _
 have S:=D.h;have an:f.get h=some (.cells [.slice (some ⟨a,0,none⟩) ab.a.length ab.a.length,.slice B ab.rows.length C] (.t ga)):=by rw[R];exact b1
 have m:f.next=h+1:=by rw[R,Q];rfl
 have ao:=D.some n hL;have m:=n.lt hL;have aE:=K.trans (K.trans y O) D;simp[n.pick,n.make,ptr, <-Q,aD,aC,setCells,<-R,-z8];refine cy.of S.ah rfl ?_;obtain⟨z,hz⟩:∃z,z=f.next:=⟨_,rfl⟩;have kU:K pm f (f.up 14):=(K.refl S).up 14;obtain⟨q,ad⟩:∃ae,ae=al.set (k*5+1) (aA ah):=⟨_,rfl⟩;obtain⟨l,ar⟩:∃ae,ae=q.set (k*5+2) (aA up):=⟨_,rfl⟩;obtain⟨T,s⟩:∃A,A=(f.up 14).put a (.cells q (.n 5)):=⟨_,rfl⟩;obtain⟨t,u⟩:∃A,A=T.put a (.cells l (.n 5)):=⟨_,rfl⟩;have m:=cL.lt e (show 1<5 by decide);have w:=cL.lt e (show 2<5 by decide);have x:setCells al (k*5+1) [aA ah]=some q:=by rw[ad];exact setCells_one m
 have y:setCells q (k*5+2) [aA up]=some l:=by rw[ar];exact setCells_one (by rw[ad];simpa using w)
 have m:T.get a=some (.cells q (.n 5)):=by rw[s];exact b1
 have a2:t.get a=some (.cells l (.n 5)):=by rw[u];exact b1
 have aG:c0 l 5 ab.a.length λj=>((ab.kr k ah up).af j).cells:=by
  have Y:c0 q 5 ab.a.length λj=>(if j=k then{ab.af k with low:=ah} else ab.af j:dy).cells:=by
   rw[ad];exact cL.set e (by decide) _ (by simp[dy.cells]) λj _ b=>by simp[b]
  have J:c0 l 5 ab.a.length λj=>(if j=k then{ab.af k with low:=ah,up:=up} else ab.af j:dy).cells:=by
   rw[ar];exact Y.set e (by decide) _ (by simp[dy.cells]) λj _ b=>by simp[b]
  refine⟨J.1,λj g=>?_⟩;have:=J.2 j g;show((ab.kr k ah up).af j).cells.length=5/\∀b,b<5->l[j*5+b]? = ((ab.kr k ah up).af j).cells[b]?;rw[K3 g];exact this
 have w:K pm H T:=by rw[s];exact aF.put (K.trans aE kU) (by omega) ao (by simp) _
 have E:K pm H t:=by rw[u];exact aF.put w (by omega) m (by simp) _
 have U:=E.h;have w:=λj=>(by rw[hz];exact S.none j:(f.up 14).get (z+j)=none);have J:=(by rw[hz];exact S.J:(f.up 14).get z=none);have f:∀j,T.get (z+j)=none:=λj=>by rw[s,a7];exact w j
 have N:∀j,t.get (z+j)=none:=λj=>by rw[u,a7];exact f j
 have N:=λo=>eG (ah:=pm.ah) (ok:=pm.ok) (o:=o) (b:=a) (by have:=g.ah;omega);have Q:du [a] [h]=true:=fq (by omega);have R:a<z:=by omega
 have S:h<z:=by omega
 have z:t.get h=some (.cells [.slice (some ⟨a,0,none⟩) ab.a.length ab.a.length,.slice B ab.rows.length C] (.t ga)):=by rw[u,a7,s,a7];exact an
 rw[<-hz];simp[b7,w,J,an,ao,e,x,N,<-s,f,m,y,<-u, Q,R,S,cj,cd, dM,z,bx,bB,-Aa];have aH:fC t (c+1) (.agg #[.slice (some ⟨a,0,none⟩) ab.a.length ab.a.length,.slice B ab.rows.length C]) (ab.kr k ah up):=by
  refine⟨_,_,rfl,?_,?_⟩
  ·have b:dR t v.next nn (.slice (some ⟨a,0,none⟩) ab.a.length ab.a.length) ab.a.length 5 λj=>((ab.kr k ah up).af j).cells:=.inr ⟨a,l,l1,l2,rfl,a2,aG⟩;have g:=b.e (P:=y4 (ab.kr k ah up).a) λi f=>⟨_,aI.jv (by rw[sT];exact f),rfl⟩;rw[sT];exact g.mono (by omega) λ_ _ _ b=>b
  ·have h:=((d2.ext ((K.trans D kU).ext n)).put (b:=a) l2 (.cells q (.n 5))).put (b:=a) l2 (.cells l (.n 5));rw[<-s,<-u]at h;exact h.mono (by omega)
 refine aq.of (az:=[.pointer (some ⟨p,0,none⟩),.agg #[.slice (some ⟨a,0,none⟩) ab.a.length ab.a.length,.slice B ab.rows.length C]]) (Ly V U hp (by omega) (hs.ext (E.ext g)) aH (SC W e av aw)) ?_;have ag:t.get c=some (.cells [.int .i64 0,.string ⟨#[]⟩,.slice none 0 0,.slice none 0 0,.slice none 0 0] (.t eW)):=by
  rw[u,a7,s,a7];exact(K.trans O D).some g1 L
 have a:=E.next;have a:=U.lt ag;rintro _ H5 (⟨hm,G,rfl⟩ | ⟨hm,G,aJ,d,_,rfl,hu,aK⟩)
 ·have a:=G.some U ag;have b:K pm H (H5.put c (.cells [.int .i64 0,.string ⟨#[]⟩,.slice none 0 0,.slice none 0 0,.slice none 0 0] (.t eW))):=aF.put (K.trans E G) (by omega) a (by simp) _;simp[setCells,a,M];refine I _ _ _ ?_;simp[dG,b1,bx,bB];exact .inr ⟨k,rfl,e,.inl ⟨hm,b,rfl⟩⟩
 ·obtain⟨_,_,_,rfl,a,f,h⟩:=id hu;obtain⟨g,i,e1,_⟩:=a.1.ex;obtain⟨o,r,e2,_⟩:=f.1.ex;obtain⟨F,P,e3,_⟩:=h.1.ex;subst e1 e2 e3;have X:=G.some U (by omega) ag;obtain⟨H6,b⟩:∃A,A=H5.put c (.cells [.int .i64 d.st,aA d.val,.slice g d.x.length i,.slice o d.d.length r,.slice F d.r.length P] (.t eW)):=⟨_,rfl⟩;have k6:fO pm p H H6:=by rw[b];exact((K.jx E).trans G).fin (by omega) X _
  have a:H6.get c=some (.cells [.int .i64 d.st,aA d.val,.slice g d.x.length i,.slice o d.d.length r,.slice F d.r.length P] (.t eW)):=by rw[b];exact b1
  simp[setCells,X,M,<-b];refine I _ _ _ ?_;simp[dG,a,bx,bB];refine⟨k,rfl,e,.inr ⟨hm,k6,?_,d,_,rfl,?_,aK⟩⟩
  ·rw[b];exact(aJ.put (by omega) (by omega) _).mono (by omega)
  ·rw[b];exact(hu.put (by omega) _).mono (by omega)
structure Bw(X:ar):Prop extends tg X where
 L':Has X F.L' C.L'
 Uu:Has X F.Uu C.Uu
 F6:Has X F.F6 C.F6
 Tu:Has X F.Tu C.Tu
 Ob:Has X F.Ob C.Ob
 Tt:Has X F.Tt C.Tt
 Tz:Has X F.Tz C.Tz
 Vv:Has X F.Vv C.Vv
 Vw:Has X F.Vw C.Vw
 SA:Has X F.SA C.SA
 SB:Has X F.SB C.SB
 Dh:Has X F.Dh C.Dh
def Ah(H:ad)(A:Nat->Prop)(v:Value)(k w:Nat)(P:Nat->List Value->Prop):Prop:=
 ∃a b,v=.slice a k b/\(a=none->k=0)/\∀d,a=some d->∃b a y c,d=⟨b,a,none⟩/\A b/\H.get b=some y/\rowOf y=some c/\a+k*w<=c.length/\∀i,i<k->∃b,bx c (a+i*w) w=some b/\P i b
theorem dk.p{ak k w:Nat}{v:Value}{P:Nat->List Value->Prop}(h:dk H ak v k w P):Ah H (λb=>ak<=b) v k w P:=h
theorem Ah.e{A:Nat->Prop}{k w:Nat}{v:Value}{P:Nat->List Value->Prop}(h:Ah H A v k w P):dk H 0 v k w P:=by
 obtain⟨a,b,e,c,d⟩:=h;exact⟨a,b,e,c,λa b=>(d a b).imp λ_ h=>h.imp λ_ h=>h.imp λ_ h=>h.imp λ_ h=>⟨h.1,Nat.zero_le _,h.2.2⟩⟩
theorem Ah.imp{A te:Nat->Prop}{k w:Nat}{v:Value}{P a:Nat->List Value->Prop}(h:Ah H A v k w P)(e:∀b y,A b->H.get b=some y->te b/\aa.get b=some y)(c:∀i cs,i<k->P i cs->a i cs):Ah aa te v k w a:=by
 obtain⟨a,d,f,g,j⟩:=h;refine⟨a,d,f,g,λa d=>?_⟩;obtain⟨b,f,y,g,k,l,m,n,o,p⟩:=j a d;obtain⟨a,d⟩:=e b y l m;exact⟨b,f,y,g,k,a,d,n,o,λi a=>(p i a).imp λcs q=>⟨q.1,c i cs a q.2⟩⟩
def Bg(H:ad)(A:Nat->Prop)(v:Value)(l:List (List UInt8)):Prop:=iN H v l/\∀b a m c,v=.slice (some ⟨b,a,none⟩) m c->A b/\∃y,H.get b=some y
theorem h3.p{ak:Nat}{v:Value}{l:List (List UInt8)}(h:h3 H ak v l):Bg H (λb=>ak<=b) v l:=h
theorem Bg.imp{A te:Nat->Prop}{v:Value}{l:List (List UInt8)}(h:Bg H A v l)(e:∀b y,A b->H.get b=some y->te b/\aa.get b=some y):Bg aa te v l:=by
 refine⟨?_,λb o m d q=>?_⟩
 ·obtain⟨c,f,rfl,g⟩:=h.1.ex;refine⟨c,f,rfl,λi j=>?_⟩;obtain⟨b,a,y,k,u,rfl,l,n⟩:=g i j;exact⟨b,a,y,k,u,rfl,(e _ _ (h.2 b a _ _ rfl).1 l).2,n⟩
 ·obtain⟨a,y,c⟩:=h.2 b o m d q;exact⟨(e b y a c).1,y,(e b y a c).2⟩
theorem Bg.form{A:Nat->Prop}{v:Value}{l:List (List UInt8)}(h:Bg H A v l):∃a cap,v=.slice a l.length cap:=by
 obtain⟨a,cap,e,_⟩:=h.1.ex;exact⟨a,cap,e⟩
abbrev zd:Nat:=T.Z4
abbrev Br:Nat:=T.Z3
def Ai.cells(x:Ai)(xt:Value):List Value:=[.int .i64 x.af,aA x.at',.int .i64 x.l,.int .i64 x.r,xt]
def ti(p mB cA b:Nat):Prop:=b≠p/\b≠mB/\b≠cA
def Bv(p mB cA b:Nat):Prop:=p<b/\b≠mB/\b≠cA
theorem Bv.f{p mB cA b:Nat}(h:Bv p mB cA b):ti p mB cA b:=⟨by have:=h.1;omega,h.2⟩
def BB(H:ad)(A:Nat->Prop)(mB q':Nat)(v:Value)(l:List (Nat×List dy)):Prop:=
 v=.slice none 0 0/\l=[]/\q'=0∨v=.slice (some ⟨mB,0,none⟩) l.length q'/\l.length<=q'/\∃L,H.get mB=some (.cells L (.n 2))/\L.length=q'*2/\
  ∀i (_:i<l.length),L[i*2]? = some (.int .i64 (l[i].1:Int))/\∃a,L[i*2+1]? = some a/\Ah H A a l[i].2.length 5 (y4 l[i].2)
def yN(H:ad)(A:Nat->Prop)(cA:Nat)(v:Value)(l:List Ai):Prop:=
 v=.slice none 0 0/\l=[]∨v=.slice (some ⟨cA,0,none⟩) l.length l.length/\∃L,H.get cA=some (.cells L (.n 5))/\∃f,c0 L 5 l.length f/\∀i (_:i<l.length),∃a,f i=l[i].cells a/\Bg H A a l[i].d
structure wi(H:ad)(p:Nat)(GI Ni:Value)(deep:Bool)(rP:Nat)(s:n6)(mB cA q':Nat):Prop where
 ge:p<=mB/\p<=cA
 Z5:(∃y,H.get mB=some y)/\∃y,H.get cA=some y
 ex:∃bf YI YU YT,H.get p=some (.cells [GI,Ni,.bool deep,.int .i64 (rP:Int),bf,YI,.int .i64 s.qc.st,aA s.qc.val,YU,.slice none 0 0,.slice none 0 0,YT] (.t zd))/\
  BB H (ti p mB cA) mB q' bf s.todo/\yN H (Bv p mB cA) cA YI s.tree/\Bg H (Bv p mB cA) YU s.qc.x/\eJ H YT s.val
theorem Ah.form{A:Nat->Prop}{k w:Nat}{v:Value}{P:Nat->List Value->Prop}(h:Ah H A v k w P):∃a cap,v=.slice a k cap:=by
 obtain⟨a,cap,e,_⟩:=h;exact⟨a,cap,e⟩
theorem BB.imp{A te:Nat->Prop}{mB q':Nat}{v:Value}{l:List (Nat×List dy)}(h:BB H A mB q' v l)(e:∀b y,A b->H.get b=some y->te b/\aa.get b=some y)(cq:∀L,H.get mB=some (.cells L (.n 2))->aa.get mB=some (.cells L (.n 2))):BB aa te mB q' v l:=by
 rcases h with h | ⟨b,c,L,d,f,a⟩
 ·exact .inl h
 ·exact .inr ⟨b,c,L,cq _ d,f,λi b=>⟨(a i b).1,(a i b).2.imp λ_ q=>⟨q.1,q.2.imp e λ_ _ _ h=>h⟩⟩⟩
theorem yN.imp{A te:Nat->Prop}{cA:Nat}{v:Value}{l:List Ai}(h:yN H A cA v l)(e:∀b y,A b->H.get b=some y->te b/\aa.get b=some y)(cq:∀L,H.get cA=some (.cells L (.n 5))->aa.get cA=some (.cells L (.n 5))):yN aa te cA v l:=by
 rcases h with h | ⟨a,L,b,f,c,d⟩
 ·exact .inl h
 ·exact .inr ⟨a,L,cq _ b,f,c,λi a=>(d i a).imp λ_ q=>⟨q.1,q.2.imp e⟩⟩
theorem YR{l:List (Nat×List dy)}{k:Nat}{cs:List dy}{i:Nat}(aJ:i<(l++[(k,cs)]).length):(i<l.length/\∃h:i<l.length,(l++[(k,cs)])[i]=l[i])∨(i=l.length/\(l++[(k,cs)])[i]=(k,cs)):=by
 by_cases h:i<l.length
 ·exact .inl ⟨h,h,List.getElem_append_left h⟩
 ·have:i=l.length:=by simp at aJ;omega
  subst this;exact .inr ⟨rfl,by simp⟩
theorem BB.app{A:Nat->Prop}{mB q' rZ ah k:Nat}{fx:List Nat}{p c:Value}{l:List (Nat×List dy)}{cs:List dy}(h:BB H A mB q' p l)(r:∀b,A b->b≠mB/\b≠rZ)(v:mB≠rZ)(s:Perm.may ⟨ah,fx,some rZ⟩ mB=true)(g':l.length<1000000)(i:Ah H A c cs.length 5 (y4 cs))(j:H.get rZ=none):
 ∃d o w aa F M,(eN 2 32 p [.int .i64 (k:Int),c] 1).runT ⟨ah,fx,some rZ⟩ H=some (d,aa,F,M)/\BB aa A o w d (l++[(k,cs)])/\(o=mB∨o=rZ)/\(∀b,b≠mB->b≠rZ->aa.get b=H.get b)/\(∀b y,b≠rZ->H.get b=some y->(∀L,y≠.cells L (.n 2))->aa.get b=some y)/\aa.next=H.next/\(∀x∈F,x=mB)/\(∀{n:Nat} {aj:ad} {pm:Perm},aF pm n aj H->n<=mB->n<=rZ->rZ<H.next->aF pm n aj aa)/\c6 d=true/\d.cells=#[d]:=by
 obtain⟨_,_,d⟩:=i.form;have f:c6 c=true:=by rw[d];rfl
 have a:(l.length+1)*32<=17179869184:=by omega
 have g:∀{aa:ad} {c:Value} {cs:List dy},(∀b,b≠mB->b≠rZ->aa.get b=H.get b)->Ah H A c cs.length 5 (y4 cs)->Ah aa A c cs.length 5 (y4 cs):=λd h=>h.imp (λb y q e=>⟨q,by rw[d b (r b q).1 (r b q).2];exact e⟩) λ_ _ _ h=>h
 rcases h with⟨rfl,rfl,rfl⟩ | ⟨rfl,cv,L,cF,dw,gZ⟩
 ·refine⟨.slice (some ⟨rZ,0,none⟩) 1 1,rZ,1,H.put rZ (.cells [.int .i64 (k:Int),c] (.n 2)),[],[rZ],?_,?_,.inr rfl,λb _ a=>a7 (h:=a),λb y a e _=>by rw[a7 (h:=a)];exact e,rfl,by simp,λu _ d g'=>aF.fill u d j g' _,rfl,rfl⟩
  ·unfold eN;simp[Perm.make,Perm.pick,f]
  ·refine .inr ⟨rfl,bg _,_,b1,rfl,λk l=>?_⟩;obtain rfl:k=0:=by simp at l;omega
   exact⟨rfl,c,rfl,g (λb _ a=>a7 (h:=a)) i⟩
 ·by_cases n:l.length+1<=q'
  ·have x:∃m,setCells L (l.length*2) [.int .i64 (k:Int),c]=some m:=by
    unfold setCells;rw[cg,ix (show l.length*2+[Value.int IntKind.i64 (k:Int),c].length<=L.length by simp;omega)];exact⟨_,rfl⟩
   obtain⟨m,t⟩:=x;obtain⟨_,_,k⟩:=Dc t;refine⟨.slice (some ⟨mB,0,none⟩) (l.length+1) q',mB,q',H.put mB (.cells m (.n 2)),[mB],[mB],?_,?_,.inl rfl,λb a _=>a7 (h:=a),λb y _ e d=>by
    have a:b≠mB:=λl=>by
     rw[l,cF]at e;exact d L (jF e).symm
    rw[a7 (h:=a)];exact e,rfl,by simp,λu d _ _=>aF.put u d cF (by simp) _,rfl,rfl⟩
   ·unfold eN;simp[n,putRow,cF,f,t,s]
   ·refine .inr ⟨by simp,by simpa using n,_,b1,by omega,λu l=>?_⟩
    rcases YR l with⟨l,_,e⟩ | ⟨rfl,e⟩
    ·rw[e,k,aC (by omega),k,aC (by omega)];exact⟨(gZ u l).1,(gZ u l).2.imp λc q=>⟨q.1,g (λb a _=>a7 (h:=a)) q.2⟩⟩
    ·rw[e,k,aT (by simp),k,aT (by simp)];exact⟨by simp,c,by simp,g (λb a _=>a7 (h:=a)) i⟩
  ·have d:q'=l.length:=by omega
   have t:bx L 0 (l.length*2)=some L:=by rw[show l.length*2=L.length by omega];exact HN L
   have u:(H.put mB .dead).get rZ=none:=by rw[a7 (h:=Ne.symm v)];exact j
   have m:∀b,b≠mB->b≠rZ->((H.put mB .dead).put rZ (.cells (L++[.int .i64 (k:Int),c]) (.n 2))).get b=H.get b:=λb f cv=>by rw[a7 (h:=cv),a7 (h:=f)]
   refine⟨.slice (some ⟨rZ,0,none⟩) (l.length+1) (l.length+1),rZ,l.length+1,(H.put mB .dead).put rZ (.cells (L++[.int .i64 (k:Int),c]) (.n 2)),[mB],[mB,rZ],?_,?_,.inr rfl,m,λb y j e d=>by
    have a:b≠mB:=λh=>by
     rw[h,cF]at e;exact d L (jF e).symm
    rw[m b a j];exact e,rfl,by simp,λd h j g'=>aF.fill (aF.put d h cF (by simp) .dead) j u g' _,rfl,rfl⟩
   ·unfold eN;simp[n,Perm.make,Perm.pick,f,cF,t,s,a,show l.length+1<=17179869184 by omega]
   ·refine .inr ⟨by simp,by simp,_,b1,by simp;omega,λh b=>?_⟩
    rcases YR b with⟨b,_,e⟩ | ⟨rfl,e⟩
    ·rw[e,hi (by omega),hi (by omega)];exact⟨(gZ h b).1,(gZ h b).2.imp λc q=>⟨q.1,g m q.2⟩⟩
    ·rw[e,hR (by omega),hR (by omega),show l.length*2-L.length=0 by omega,show l.length*2+1-L.length=1 by omega];exact⟨rfl,c,rfl,g m i⟩
end Go.Dam.C
namespace Go.Dam.C
open Go Go.Dam
variable{X:ar}{pm:Perm}{H aa bL aj:ad}{n:Nat}
theorem c0.app{L xs:List Value}{w n:Nat}{f:Nat->List Value}(h:c0 L w n f)(a:xs.length=w):c0 (L++xs) w (n+1) λj=>if j=n then xs else f j:=by
 refine⟨by simp[h.1,a,hS],λj _=>?_⟩;by_cases e:j=n
 ·subst e;simp only[if_true];refine⟨a,λ_ _=>?_⟩;rw[hR (by rw[h.1];omega),h.1];congr 1;omega
 ·simp only[e,if_false];refine⟨(h.2 j (by omega)).1,λk a=>?_⟩;rw[hi (h.lt (by omega) a)];exact(h.2 j (by omega)).2 k a
structure sl(pm:Perm)(p mB cA uy wh:Nat)(H aa:ad):Prop where
 h:bs pm aa
 next:H.next<=aa.next
 get:∀b,b<H.next->ti p mB cA b->aa.get b=H.get b
 cr:∀b o,H.get b=some (.cr o)->aa.get b=some (.cr o)
 t:uy=mB∨H.next<=uy
 r:wh=cA∨H.next<=wh
variable{p mB cA q' uy wh Yj Yh rP:Nat}{GI Ni Aj:Value}{deep:Bool}{s:n6}{cs:List dy}
theorem sl.WR(k:sl pm p mB cA uy wh H aa){b:Nat}(a:b<H.next)(h:ti p mB cA b):ti p uy wh b:=⟨h.1,by have:=k.t;have:=h.2.1;omega,by have:=k.r;have:=h.2.2;omega⟩
theorem sl.trans(k:sl pm p mB cA uy wh H aa)(l:sl pm p uy wh Yj Yh aa bL):sl pm p mB cA Yj Yh H bL:=
 ⟨l.h,aY k.next l.next,λb a h=>(l.get b (eC a k.next) (k.WR a h)).trans (k.get b a h),λb o h=>l.cr b o (k.cr b o h),by
  have:=k.t;have:=l.t;have:=k.next;omega,by have:=k.r;have:=l.r;have:=k.next;omega⟩
theorem sl.NM(k:K pm H aa):sl pm p mB cA mB cA H aa:=⟨k.h,k.next,λb a _=>k.get b a,k.cr,.inl rfl,.inl rfl⟩
theorem sl.some(k:sl pm p mB cA uy wh H aa)(g:bs pm H){b:Nat}{y:bk}(h:ti p mB cA b)(e:H.get b=Option.some y):aa.get b=Option.some y:=(k.get b (g.lt e) h).trans e
theorem sl.up(k:sl pm p mB cA uy wh H aa)(a:p<=mB)(a:p<=cA)(a:p<H.next):aF pm p H aa:=⟨k.h,k.next,λb _=>k.get b (by omega) ⟨by omega,by omega,by omega⟩,k.cr⟩
theorem sl.YL(k:sl pm p mB cA uy wh H aa)(g:bs pm H){a w:Nat}{v:Value}{P b:Nat->List Value->Prop}(h:Ah H (ti p mB cA) v a w P)(c:∀i cs,i<a->P i cs->b i cs):Ah aa (ti p uy wh) v a w b:=
 h.imp (λ_ _ a e=>⟨k.WR (g.lt e) a,k.some g a e⟩) c
theorem WM(hX:Bw X)(g:bs pm H)(ag:pm.ah<=p)(h:wi H p GI Ni deep rP s mB cA q')(ai:Ah H (ti p mB cA) Aj cs.length 5 (y4 cs))(hn:s.tree.length<=1000)(ht:s.todo.length<=1000):
 Call X pm F.F6 [.pointer (some ⟨p,0,none⟩),Aj] H λr aa=>∃uy wh W,r=.int .i64 (s.tree.length:Int)/\wi aa p GI Ni deep rP (s.r1 cs) uy wh W/\sl pm p mB cA uy wh H aa:=by
 refine Call.P hX.F6 rfl λ_ hQ=>?_;obtain⟨⟨_,_⟩,⟨⟨_,aq⟩,_,ar⟩,B,rv,l,m,a,au,av,aw,ax⟩:=h;have lp:=g.lt a;have aM:=g.lt aq;have aq:=g.lt ar;obtain⟨C,o,D,ho,E,cf,hf⟩:∃C o,lg H rv 5 s.tree.length C o/\(∀t,o=some t->t=cA)/\∃E,c0 C 5 s.tree.length E/\∀i (G:i<s.tree.length),∃Y,E i=s.tree[i].cells Y/\Bg H (Bv p mB cA) Y s.tree[i].d:=by
  rcases av with⟨rfl,e⟩ | ⟨rfl,L,bX,E,cv,cF⟩
  ·rw[e];exact⟨[],none,⟨rfl,rfl,rfl⟩,by simp,λ_=>[],⟨rfl,λj Z=>absurd Z (hz _)⟩,λi G=>absurd G (hz _)⟩
  ·exact⟨L,some cA,⟨rfl,cv.1,bX⟩,λt e=>by cases e;rfl,E,cv,cF⟩
 obtain⟨q,I⟩:∃q,q=H.next:=⟨_,rfl⟩;obtain⟨N,J⟩:∃A,A=H.new (.cells [.int .i64 (-1),.string ⟨#[]⟩,.int .i64 0,.int .i64 0,.slice none 0 0] (.n 5)):=⟨_,rfl⟩;have O:K pm H N:=by rw[J];exact K.new g _
 have E:=O.h;have ay:N.next=q+1:=by rw[J,I];rfl
 have az:N.get q=some (.cells [.int .i64 (-1),.string ⟨#[]⟩,.int .i64 0,.int .i64 0,.slice none 0 0] (.n 5)):=by rw[J,I];exact b4
 obtain⟨H2,a1,a2,a3,a4,a5⟩:=zy E (cc:=64) (n:=p+1) (D.ext λt y _ e=>O.some g e) (xs:=[.int .i64 (-1),.string ⟨#[]⟩,.int .i64 0,.int .i64 0,.slice none 0 0]) rfl rfl (by decide) (by omega) (by decide) (by omega) (λt E=>by
  have e:=ho t E;have b:t≠p:=λd=>by
   rw[E]at D;have bX:=D.2.2;rw[d,a]at bX;cases bX
  exact⟨by omega,eG (by omega)⟩)
 have t:=a3.h;rw[ay]at a1 a2 a4 a5;have t:=O.some g a;have aj:H2.get p=some (.cells [GI,Ni,.bool deep,.int .i64 (rP:Int),B,rv,.int .i64 s.qc.st,aA s.qc.val,l,.slice none 0 0,.slice none 0 0,m] (.t zd)):=(a3.get p (by omega)).trans t;obtain⟨_,_⟩:∃t,t=Value.slice (some ⟨q+1,0,none⟩) (s.tree.length+1) (s.tree.length+1):=⟨_,rfl⟩;obtain⟨c,w⟩:∃A,A=H2.put p (.cells [GI,Ni,.bool deep,.int .i64 (rP:Int),B,.slice (some ⟨q+1,0,none⟩) (s.tree.length+1) (s.tree.length+1),.int .i64 s.qc.st,aA s.qc.val,l,.slice none 0 0,.slice none 0 0,m] (.t zd)):=⟨_,rfl⟩;have u3:aF pm p N c:=by rw[w];exact aF.put (a3.mono (by omega)) (bg _) aj (by simp) _
 have P:=u3.h;have ak:c.get p=some (.cells [GI,Ni,.bool deep,.int .i64 (rP:Int),B,.slice (some ⟨q+1,0,none⟩) (s.tree.length+1) (s.tree.length+1),.int .i64 s.qc.st,aA s.qc.val,l,.slice none 0 0,.slice none 0 0,m] (.t zd)):=by rw[w];exact b1
 have t:c.next=q+2:=by rw[w];exact a4
 have aB:pm.may p=true:=eG ag;have wn:wr .i64 (s.tree.length:Int)=s.tree.length:=b8;have al:∀b,b<q->b≠p->o≠some b->c.get b=H.get b:=λb bX cv cF=>by
  rw[w,a7 (h:=cv),a5 b (by omega) cF,J,qk (by omega)]
 have ab:∀b,b<q->ti p mB cA b->c.get b=H.get b:=λb bX cv=>al b bX cv.1 λe=>cv.2.2 (ho b e);obtain⟨z,Q⟩:∃z,z=c.next:=⟨_,rfl⟩;obtain⟨f,x⟩:∃A,A=(c.up 18).put (z+13) (.cells [.int .i64 (s.tree.length:Int),Aj] (.n 2)):=⟨_,rfl⟩;have t:K pm c (c.up 18):=(K.refl P).up 18;have ad:=λj=>(by rw[Q];exact P.none j:(c.up 18).get (z+j)=none);have aC:=(by rw[Q];exact P.J:(c.up 18).get z=none);have aD:K pm c f:=by rw[x];exact aF.fill t (by omega) (ad 13) (by show z+13<c.next+18;omega) _
 have aE:f.get (z+13)=some (.cells [.int .i64 (s.tree.length:Int),Aj] (.n 2)):=by rw[x];exact b1
 have ae:∀j,j≠13->f.get (z+j)=none:=λj Z=>by rw[x,a7];exact ad j
 have t:f.next=z+18:=by rw[x,Q];rfl
 have M:∀b,b≠z+13->f.get b=c.get b:=λb a=>by rw[x,a7 (h:=a)];rfl
 have aG:BB f (λb=>b<q/\ti p mB cA b) mB q' B s.todo:=by
  refine au.imp (λb y a e=>?_) λL e=>?_
  ·have I:=g.lt e;exact⟨⟨by omega,a⟩,by rw[M b (by omega),ab b (by omega) a];exact e⟩
  ·have b:mB≠p:=λd=>by rw[d,a]at e;cases e
   have g:o≠some mB:=λd=>by
    rw[d]at D;have bX:=D.2.2;rw[e]at bX;cases bX
   rw[M mB (by omega),al mB (by omega) b g];exact e
 have t:Ah f (λb=>b<q/\ti p mB cA b) Aj cs.length 5 (y4 cs):=ai.imp (λb y a e=>by
  have I:=g.lt e;exact⟨⟨by omega,a⟩,by rw[M b (by omega),ab b (by omega) a];exact e⟩) λ_ _ _ h=>h
 obtain⟨af,uy,W,R,F,_,e1,d,S,e4,D,_,e6,e7,e8,e9⟩:=aG.app (rZ:=z+14) (ah:=pm.ah) (fx:=pm.ok) (k:=s.tree.length) (λb a=>⟨by have:=a.2.2.1;omega,by omega⟩) (by omega) (eG (by omega)) (by omega) t (ae 14 (by decide));have T:R.get p=some (.cells [GI,Ni,.bool deep,.int .i64 (rP:Int),B,.slice (some ⟨q+1,0,none⟩) (s.tree.length+1) (s.tree.length+1),.int .i64 s.qc.st,aA s.qc.val,l,.slice none 0 0,.slice none 0 0,m] (.t zd)):=D p _ (by omega) (by rw[M p (by omega)];exact ak) (λL h=>by cases h);have aH:∀j,14<j->R.get (z+j)=none:=λj Z=>by rw[e4 _ (by omega) (by omega)];exact ae j (by omega)
 obtain⟨u,v⟩:∃A,A=R.put p (.cells [GI,Ni,.bool deep,.int .i64 (rP:Int),af,.slice (some ⟨q+1,0,none⟩) (s.tree.length+1) (s.tree.length+1),.int .i64 s.qc.st,aA s.qc.val,l,.slice none 0 0,.slice none 0 0,m] (.t zd)):=⟨_,rfl⟩;have an:u.get p=some (.cells [GI,Ni,.bool deep,.int .i64 (rP:Int),af,.slice (some ⟨q+1,0,none⟩) (s.tree.length+1) (s.tree.length+1),.int .i64 s.qc.st,aA s.qc.val,l,.slice none 0 0,.slice none 0 0,m] (.t zd)):=by rw[v];exact b1
 have aI:=λo=>eG (ah:=pm.ah) (ok:=pm.ok) (o:=o) (b:=p) ag;have aJ:c6 Aj=true/\Aj.cells=#[Aj]:=by
  obtain⟨_,_,e⟩:=ai.form;rw[e];exact⟨rfl,rfl⟩
 have dz:du [z+13] [p]=true:=fq (by omega);have aK:p<z:=by omega
 simp[g.pick,g.make,fill,<-I,<-J,a,az,bx,a1,aj,aB,setCells,<-w,-WD];refine cy.of P.ah rfl ?_;rw[<-Q];simp[b7,ad,aC,ak,wn,fill,bB,aJ,Perm.make,Perm.pick, <-x,ae,aE,bx,e1,aH,T,aI,e8,e9,setCells,<-v,dz,aK,cj,cd, dM,-WD];refine⟨λx j=>by have:=e6 x j;omega,?_⟩;simp[an,wn];refine hQ _ _ _ ?_;simp;have j:aF pm p H c:=aF.trans (O.mono (by omega)) u3;have t:aF pm p H f:=j.k aD (by omega);have f:aF pm p H R:=e7 t (by omega) (by omega) (by omega);have U:aF pm p H u:=by rw[v];exact aF.put f (bg _) T (by simp) _
 have f:∀b,b≠p->b≠mB->b<z->u.get b=c.get b:=λb bX cv cF=>by
  rw[v,a7 (h:=bX),e4 b cv (by omega),M b (by omega)]
 have fz:∀b,b<q->ti p mB cA b->u.get b=H.get b:=λb bX cv=>by
  have cF:=cv.2.1;rw[f b cv.1 (by omega) (by omega)];exact ab b bX cv
 have V:∀b y,ti p mB cA b->H.get b=some y->ti p uy (q+1) b/\u.get b=some y:=λb y h e=>by
  have c:=g.lt e;have cF:=h.2.1;exact⟨⟨h.1,by omega,by omega⟩,by rw[fz b (by omega) h];exact e⟩
 have ao:u.get (q+1)=some (.cells (C++[.int .i64 (-1),.string ⟨#[]⟩,.int .i64 0,.int .i64 0,.slice none 0 0]) (.n 5)):=by
  rw[f (q+1) (by omega) (by omega) (by omega),w,a7];exact a2.2.2
 have aL:∃y,u.get uy=some y:=by
  rcases d with⟨_,e,_⟩ | ⟨_,_,L,e,_⟩
  ·simp at e
  ·exact⟨_,by rw[v,a7 (h:=λS=>by rw[S,T]at e;cases e)];exact e⟩
 refine⟨uy,q+1,⟨W,⟨by omega,by omega⟩,⟨aL,_,ao⟩,af,_,l,m,an,?_,?_,aw.imp λb y a e=>⟨⟨a.1,(V b y a.f e).1.2⟩,(V b y a.f e).2⟩,ax.up U⟩,⟨U.h,U.next,λb a h=>fz b (by omega) h,U.cr,by omega,.inr (by omega)⟩⟩
 ·refine d.imp (λb y a e=>⟨⟨a.2.1,by have:=a.2.2.1;omega,by omega⟩,?_⟩) λL e=>?_
  ·rw[v,a7 (h:=a.2.1)];exact e
  ·rw[v,a7 (h:=λS=>by rw[S,T]at e;cases e)];exact e
 ·refine .inr ⟨by simp[n6.r1],C++[.int .i64 (-1),.string ⟨#[]⟩,.int .i64 0,.int .i64 0,.slice none 0 0],ao,_,by simpa [n6.r1]using cf.app (xs:=[.int .i64 (-1),.string ⟨#[]⟩,.int .i64 0,.int .i64 0,.slice none 0 0]) rfl,λi G=>?_⟩
  ·have G:i<s.tree.length+1:=by simpa [n6.r1]using G
   by_cases e:i=s.tree.length
   ·subst e;simp only[n6.r1,List.getElem_append_right (bg _),Nat.sub_self,List.getElem_cons_zero,if_true];exact⟨.slice none 0 0,rfl,.nil,λ_ _ _ _ h=>(by cases h)⟩
   ·have c:i<s.tree.length:=by omega
    simp only[n6.r1,List.getElem_append_left c,e,if_false];exact(hf i c).imp λY q=>⟨q.1,q.2.imp λb y a e=>⟨⟨a.1,(V b y a.f e).1.2⟩,(V b y a.f e).2⟩⟩
end Go.Dam.C
