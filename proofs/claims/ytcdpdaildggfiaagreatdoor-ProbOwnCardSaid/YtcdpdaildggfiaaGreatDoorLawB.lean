/- What the functions of the program compute, for every input. -/
import Derived.Test.YtcdpdaildggfiaaGreatDoorLawA
import Derived.Lib.ItoaNum
import Derived.Lib.ParseIntB
import Derived.Lib.SlTrimSet
import Derived.Lib.Repeat
namespace Go.Dam.C
open Go Go.Dam
variable{X:ar}{pm:Perm}{H aa:ad}
section
variable[bq]
theorem zv(c:c4 X)(d:bR pm H){v w:Value}{n m k:Nat}(b:bV H v n)(e:bV H w m)(f:n<4294967296^k)(g:m<4294967296^k)(a:k<268435456):Call X pm F.kQ [v,w] H λr aa=>bh pm H aa/\bV aa r (n+m):=by
 obtain⟨_,h,i,a⟩:=b.out;obtain⟨_,j,k,b⟩:=e.out;have e:=fv i a f;have e:=fv k b g;refine(LS c d h j (by omega) (by omega)).mono ?_;rintro r aa ⟨c,_,d,_,e⟩;exact⟨c,by rw[<-a,<-b,<-e];exact d.nat⟩
theorem pn(c:c4 X)(d:bR pm H){v w:Value}{n m k:Nat}(b:bV H v n)(e:bV H w m)(f:n<4294967296^k)(g:m<4294967296^k) (a:k<268435456:=by omega):Call X pm F.hM [v,w] H λr aa=>bh pm H aa/\bV aa r (n*m):=by
 obtain⟨_,h,i,a⟩:=b.out;obtain⟨_,j,k,b⟩:=e.out;have e:=fv i a f;have e:=fv k b g;refine(MB c d h j (by omega) (by omega)).mono ?_;rintro r aa ⟨c,_,d,_,e⟩;exact⟨c,by rw[<-a,<-b,<-e];exact d.nat⟩
theorem zU(c:c4 X){v w:Value}{n m k:Nat}(d:bV H v n)(e:bV H w m)(f:n<4294967296^k)(g:m<4294967296^k)(i:k<268435456):Call X pm F.iZ [v,w] H λr aa=>aa=H/\r=.int .i64 (e1 n m):=by
 obtain⟨_,h,i,a⟩:=d.out;obtain⟨_,j,d,b⟩:=e.out;have e:=fv i a f;have e:=fv d b g;subst a b;exact vP c h j (by omega) (by omega)
theorem IN(d:c4 X)(e:bR pm H){v w:Value}{n m k:Nat}(f:bV H v n)(g:bV H w m)(h:n<4294967296^k)(i:m<4294967296^k)(o:k<268435456):
 Call X pm F.kS [v,w] H λr aa=>bh pm H aa/\(n<m/\r=.tuple #[.pointer none,.bool false]∨m<=n/\∃p,r=.tuple #[p,.bool true]/\bV aa p (n-m)):=by
 obtain⟨_,j,k,a⟩:=f.out;obtain⟨_,l,b,c⟩:=g.out;have f:=fv k a h;have f:=fv b c i;subst a c;refine(FV d e j l (by omega) (by omega) b).mono ?_;rintro r aa ⟨a,h | ⟨h,p,_,b,c,_,d⟩⟩
 ·exact⟨a,.inl h⟩
 ·exact⟨a,.inr ⟨h,p,b,by rw[<-d];exact c.nat⟩⟩
theorem Aw(e:c4 X)(f:bR pm H){v w:Value}{n m k:Nat}(g:bV H v n)(h:bV H w m)(i:n<4294967296^k)(j:m<4294967296^k)(p:k<268435456)(l:m≠0):
 Call X pm F.j4 [v,w] H λr aa=>bh pm H aa/\∃q s,r=.tuple #[q,s,.bool true]/\bV aa q (n/m)/\bV aa s (n%m):=by
 obtain⟨_,k,a,b⟩:=g.out;obtain⟨_,o,c,d⟩:=h.out;have g:=fv a b i;have g:=fv c d j;subst b d;refine(FG e f k o a c (by omega) (by omega)).mono ?_;rintro r aa ⟨a,⟨h,_⟩ | ⟨_,q,s,b,c,d⟩⟩
 ·exact absurd h l
 ·exact⟨a,q,s,b,c,d⟩
theorem uK(a:c4 X)(b:bR pm H){x:Nat} (c:x<18446744073709551616:=by omega):Call X pm F.ft [.int .u64 (x:Int)] H λr aa=>bh pm H aa/\bV aa r x:=by
 refine(wb a b c).mono ?_;rintro r aa ⟨a,b⟩;have:=b.nat;rw[<-j',xD]at this;exact⟨a,this⟩
theorem Jz(a:c4 X)(b:bR pm H):Call X pm F.ft [.int .u64 0] H λr aa=>bh pm H aa/\bV aa r 0:=uK a b (x:=0)
theorem se(a:c4 X)(b:bR pm H):Call X pm F.ft [.int .u64 1] H λr aa=>bh pm H aa/\bV aa r 1:=uK a b (x:=1)
end
theorem Np(x:Nat):((x:Int)==0)=decide (x=0):=by
 cases x with
 | zero=>rfl
 | succ x=>simp;omega
section
variable[bq]
theorem pW(a:c4 X){v:Value}{n k:Nat}(e:bV H v n)(f:n<4294967296^k)(h:k<268435456):Call X pm F.jd [v] H λr aa=>aa=H/\r=.bool (decide (n=0)):=by
 obtain⟨b,g,c,d⟩:=e.out;have e:=fv c d f;subst d;refine Call.has a.jd rfl ?_;simp;refine aq.of (LU a g c (by omega)) ?_;rintro _ H ⟨rfl,rfl⟩;have:ai (ay b)=0↔ay b=0:=by
  unfold ai;split
  ·simp[*]
  ·simp[*]
 simp;rw[Np];exact decide_eq_decide.2 this
def fs(neg:Bool)(n d:Nat):Rat:=mkRat (if neg then -(n:Int) else(n:Int)) d
structure eY(H:ad)(v:Value)(q:Rat):Prop where
 ex:(v=.pointer none/\q=0)∨∃b x Kd J7,v=.pointer (some ⟨b,0,none⟩)/\H.get b=some x/\zk x [.bool (decide (q<0)),Kd,J7]/\bV H Kd q.num.natAbs/\bV H J7 q.den
theorem eY.u{v:Value}{q:Rat}(h:eY H v q)(a:bR pm H)(b:bh pm H aa):eY aa v q:=by
 refine⟨h.ex.imp id ?_⟩;rintro⟨c,x,d,e,f,g,i,j,k⟩;exact⟨c,x,d,e,f,b.some a g,i,j.u a b,k.u a b⟩
def fA(H:ad)(v:Value)(q:Rat):Prop:=eY H v q/\∃b a t,v=.pointer (some ⟨b,0,none⟩)/\H.get b=some (.cells a (.t t))
theorem fA.u{v:Value}{q:Rat}(h:fA H v q)(a:bR pm H)(b:bh pm H aa):fA aa v q:=
 ⟨h.1.u a b,let ⟨c,d,t,e,f⟩:=h.2;⟨c,d,t,e,b.some a f⟩⟩
end
theorem BM{neg:Bool}{n d:Nat}(a:d≠0):(fs neg n d).den=d/Nat.gcd n d:=by
 unfold fs;rw[Rat.den_mkRat,aC a,mX];congr 2;cases neg<;>simp
theorem BN{neg:Bool}{n d:Nat}(a:d≠0):(fs neg n d).num.natAbs=n/Nat.gcd n d:=by
 unfold fs;rw[Rat.num_mkRat,aC a,mX]
 cases neg with
 | false=>simp;rfl
 | true=>
   simp only[if_true,Int.natAbs_neg,Int.natAbs_natCast];rw[Int.neg_ediv_of_dvd (by exact_mod_cast Nat.gcd_dvd_left n d),Int.natAbs_neg];rfl
theorem uE(q:Rat):q<0↔q.num<0:=by
 rw[<-Rat.not_le,<-Rat.num_nonneg];omega
theorem QE{neg:Bool}{n d:Nat}(a:d≠0):decide (fs neg n d<0)=(neg&&!decide (n=0)):=by
 have b:0<Nat.gcd n d:=Nat.gcd_pos_of_pos_right _ (m' a);have h:(fs neg n d<0)↔(neg=true/\n≠0):=by
  rw[uE];unfold fs;rw[Rat.num_mkRat,aC a,mX]
  cases neg with
  | false=>
    simp only[kj,if_false,Int.natAbs_natCast,false_and,iff_false];have:(0:Int)<=(n:Int)/(Nat.gcd n d:Nat):=Int.ediv_nonneg (by omega) (by omega);omega
  | true=>
    simp only[if_true,Int.natAbs_neg,Int.natAbs_natCast,true_and];have a:((Nat.gcd n d:Nat):Int)∣(n:Int):=by exact_mod_cast Nat.gcd_dvd_left n d
    rw[Int.neg_ediv_of_dvd a];have e:((n:Int)/(Nat.gcd n d:Nat))=((n/Nat.gcd n d:Nat):Int):=rfl;rw[e];constructor
    ·rintro h rfl;simp at h
    ·intro a;have:0<n/Nat.gcd n d:=Nat.div_pos (Nat.le_of_dvd (m' a) (Nat.gcd_dvd_left n d)) b;omega
 rw[Bool.eq_iff_iff];simp only[df,b3,iq,decide_eq_false_iff_not];exact h
section
variable[bq]
theorem bV.ptr{v:Value}{n:Nat}(h:bV H v n):(v=.pointer none/\n=0)∨∃a,v=.pointer (some a):=by
 obtain⟨_,a,_,c⟩:=h.out
 rcases a with⟨h,rfl⟩ | ⟨b,_,_,h,_⟩
 ·exact .inl ⟨h,c.symm⟩
 ·exact .inr ⟨_,h⟩
def qA(pm:Perm)(H:ad)(neg:Bool)(n d:Nat):b5:=λx l aa=>(x=dS.normal∨x=dS.ret)/\∃a,hU l aa [.slot 6,.slot 7]=some a/\(bh pm H aa/\(d=0/\f' a=.tuple #[.pointer none,.bool false]∨d≠0/\∃p,f' a=.tuple #[p,.bool true]/\fA aa p (fs neg n d)))
theorem F0(g:c4 X)(b:bR pm H){neg:Bool}{v w:Value}{n d k:Nat}(A:bV H v n)(s:bV H w d)(B:n<4294967296^k)(t:d<4294967296^k)(i:k<268435456):
 Call X pm F.mV [.bool neg,v,w] H λr aa=>bh pm H aa/\(d=0/\r=.tuple #[.pointer none,.bool false]∨d≠0/\∃p,r=.tuple #[p,.bool true]/\fA aa p (fs neg n d)):=by
 refine Call.has g.mV rfl ?_;show wp X pm _ _ _ _ (qA pm H neg n d);simp[-lS];refine aq.of (pW g s t i) ?_;rintro _ H ⟨rfl,rfl⟩;by_cases e:d=0
 ·simp[e,qA];exact bh.refl b
 have J:0<Nat.gcd n d:=Nat.gcd_pos_of_pos_right _ (m' e);obtain⟨G,o⟩:∃G,G=Nat.gcd n d:=⟨_,rfl⟩
 have E:∀(m:bb) (h:ad) (C j:Value),bh pm H h->bV h C (n/G)->bV h j (d/G)->aK 0 m=some (.bool neg)->aK 1 m=some C->aK 2 m=some j->
  wp X pm (.code lS) m h [] (qA pm H neg n d):=by
  intro m h C j f u p v w x;have K:n/G=0↔n=0:=by
   rw[o];constructor
   ·intro _
    rcases uZ n with q | q
    ·exact q
    ·have:0<n/Nat.gcd n d:=Nat.div_pos (Nat.le_of_dvd q (Nat.gcd_dvd_left n d)) J;omega
   ·rintro rfl;simp
  have y:∀(a:ad) (m:Value),bh pm h a->bV a m (n/G)->bh pm H (a.new (.cells [.bool (neg&&!decide (n=0)),m,j] (.t T.Cw)))/\fA (a.new (.cells [.bool (neg&&!decide (n=0)),m,j] (.t T.Cw))) (ptr a.next) (fs neg n d):=by
   intro a m c k;have d:bh pm a (a.new (.cells [.bool (neg&&!decide (n=0)),m,j] (.t T.Cw))):=(bh.refl c.ok).new _;refine⟨(f.trans c).trans d,⟨.inr ⟨a.next,_,m,j,rfl,b4,?_,?_,?_⟩⟩,_,_,_,rfl,b4⟩
   ·rw[QE e];exact⟨rfl,rfl⟩
   ·rw[BN e,<-o];exact k.u c.ok d
   ·rw[BM e,<-o];exact(p.u f.ok c).u c.ok d
  have F:n/G<4294967296^k:=cV (kk _ _) B;have I:decide (n/G=0)=decide (n=0):=decide_eq_decide.2 K
  rcases u.ptr with⟨rfl,q⟩ | ⟨zt,rfl⟩
  ·simp[w];refine aq.of (Jz g f.ok) ?_;rintro r a ⟨c,d⟩;rw[<-q]at d
   cases neg with
   | true=>
     simp[v];refine aq.of (pW g d F i) ?_;rintro _ a ⟨rfl,rfl⟩;have:=y a r c d;rw[I]
     rcases d.ptr with⟨rfl,_⟩ | ⟨a2,rfl⟩<;>rcases p.ptr with⟨rfl,_⟩ | ⟨a3,rfl⟩<;>simp[qA,x,e,b.make,b.pick]<;>simpa using this
   | false=>
     simp[v];refine aq.not ?_;have:=y a r c d
     rcases d.ptr with⟨rfl,_⟩ | ⟨a2,rfl⟩<;>rcases p.ptr with⟨rfl,_⟩ | ⟨a3,rfl⟩<;>simp[qA,x,e,b.make,b.pick]<;>simpa using this
  ·simp[w]
   cases neg with
   | true=>
     simp[v];refine aq.of (pW g u F i) ?_;rintro _ h ⟨rfl,rfl⟩;have:=y h _ (bh.refl f.ok) u;rw[I]
     rcases p.ptr with⟨rfl,_⟩ | ⟨a3,rfl⟩<;>simp[qA,w,x,e,b.make,b.pick]<;>simpa using this
   | false=>
     simp[v];refine aq.not ?_;have:=y h _ (bh.refl f.ok) u
     rcases p.ptr with⟨rfl,_⟩ | ⟨a3,rfl⟩<;>simp[qA,w,x,e,b.make,b.pick]<;>simpa using this
 simp[-lS,e];refine aq.of (Mn g b A s B t i) ?_;rintro _ h ⟨f,z⟩;rw[<-o]at z;have D:G<4294967296^k:=by
  rw[o];exact cV (Nat.gcd_le_right _ (m' e)) t
 simp[-lS];refine aq.of (se g f.ok) ?_;rintro _ a ⟨c,e⟩;have h:1<4294967296^k:=by omega
 simp[-lS];refine aq.of (zU g (z.u f.ok c) e D h i) ?_;rintro _ a ⟨rfl,rfl⟩;have l:=f.trans c;by_cases e:G=1
 ·have d:e1 G 1=0:=by simp[e1,e]
  simp[-lS,d];refine E _ a v w l (by rw[e,Nat.div_one];exact A.u b l) (by rw[e,Nat.div_one];exact s.u b l) ?_ ?_ ?_<;>simp
 ·have a:e1 G 1=1:=by unfold e1;rw[aC (by omega),aC e]
  simp[-lS,a];refine aq.of (Aw g l.ok (A.u b l) (z.u f.ok c) B D i (by omega)) ?_;rintro _ _ ⟨d,p,_,rfl,q,_⟩;simp[-lS];have k:=l.trans d;refine aq.of (Aw g d.ok (s.u b k) ((z.u f.ok c).u l.ok d) t D i (by omega)) ?_;rintro _ r ⟨n,u,_,rfl,a,_⟩;simp[-lS];refine E _ r p u (k.trans n) (q.u d.ok n) a ?_ ?_ ?_<;>simp
def hA(neg:Bool)(n:Nat):Int:=if neg then -(n:Int) else(n:Int)
end
theorem r6(neg:Bool)(n d:Nat):fs neg n d=mkRat (hA neg n) d:=rfl
theorem kV(q:Rat):q.num=hA (decide (q<0)) q.num.natAbs:=by
 unfold hA;by_cases h:q<0
 ·have:=(uE q).1 h;simp[h];omega
 ·have:¬q.num<0:=λa=>h ((uE q).2 a);simp[h];omega
theorem I8(q:Rat):fs (decide (q<0)) q.num.natAbs q.den=q:=by
 rw[r6,<-kV];simp_all
section
variable[bq]
def aS(q:Rat)(k:Nat):Prop:=q.num.natAbs<4294967296^k/\q.den<4294967296^k
end
theorem jz{n m k:Nat}(a:n<4294967296^k)(b:m<4294967296^k):n*m<4294967296^(2*k):=by
 rw[show 2*k=k+k by omega,fH];exact sI a b
theorem kg{n j k:Nat}(h:n<4294967296^j)(a:j<=k):n<4294967296^k:=eC h (fX (by decide) a)
theorem xV{n m k:Nat}(a:n<4294967296^k)(a:m<4294967296^k):n+m<4294967296^(k+1):=by
 grind
section
variable[bq]
theorem lk(e:c4 X)(a:bR pm H){v:Value}{q:Rat}(h:eY H v q):
 Call X pm F.hh [v] H λr aa=>bh pm H aa/\∃c d,r=.tuple #[.bool (decide (q<0)),c,d]/\bV aa c q.num.natAbs/\bV aa d q.den:=by
 refine Call.has e.hh rfl ?_
 rcases h.ex with⟨rfl,rfl⟩ | ⟨b,x,c,d,rfl,bX,cv,cF,dw⟩
 ·simp;refine aq.of (Jz e a) ?_;rintro g _ ⟨b,h⟩;simp;refine aq.of (se e b.ok) ?_;rintro e _ ⟨f,i⟩;simp;exact⟨b.trans f,g,e,⟨rfl,rfl⟩,h.u b.ok f,i⟩
 ·have g:∃f,d=.pointer (some f):=by
   rcases dw.ptr with⟨_,h⟩ | h
   ·exact absurd h q.den_nz
   ·exact h
  obtain⟨f,rfl⟩:=g;simp[bX,cv];refine cy.tP a rfl rfl rfl ?_;simp[bX,cv];have b:=(bh.refl a).up 15;exact⟨b,c,_,⟨rfl,rfl⟩,cF.u a b,dw.u a b⟩
theorem sZ(a:c4 X)(b:bR pm H){neg:Bool}{v w:Value}{n d k:Nat}(c:bV H v n)(e:bV H w d)(f:n<4294967296^k)(g:d<4294967296^k) (i:d≠0)(h:k<268435456:=by omega):
 Call X pm F.jB [.bool neg,v,w] H λr aa=>bh pm H aa/\fA aa r (fs neg n d):=by
 refine Call.has a.jB rfl ?_;simp;refine aq.of (F0 a b (neg:=neg) c e f g h) ?_;simp_all
theorem F'(a:c4 X)(b:bR pm H){v:Value}{q:Rat}{k:Nat}(h:eY H v q)(c:aS q k)(d:k<268435456):
 Call X pm F.dY [v] H λr aa=>bh pm H aa/\r=.int .i64 (if q<0 then -1 else if q=0 then 0 else 1):=by
 refine Call.has a.dY rfl ?_;simp;refine aq.of (lk a b h) ?_;rintro _ _ ⟨_,_,_,rfl,e,_⟩;by_cases f:q<0
 ·simp_all
 ·simp[f];refine aq.of (pW a e c.1 d) ?_;simp_all
end
theorem I7(q:Rat):(-q).num.natAbs=q.num.natAbs/\(-q).den=q.den/\decide (-q<0)=(!decide (q<0)&&!decide (q.num.natAbs=0)):=by
 refine⟨by simp_all,Rat.neg_den q,?_⟩;rw[Bool.eq_iff_iff];simp only[df,b3,iq,decide_eq_false_iff_not];rw[uE,uE,Rat.neg_num];omega
section
variable[bq]
theorem FZ(j:c4 X)(b:bR pm H){v:Value}{q:Rat}{k:Nat}(h:eY H v q)(m:aS q k)(n:k<268435456):
 Call X pm F.ij [v] H λr aa=>bh pm H aa/\fA aa r (-q):=by
 refine Call.has j.ij rfl ?_;simp;refine aq.of (lk j b h) ?_;rintro _ a ⟨c,d,e,rfl,f,k⟩;obtain⟨o,p,l⟩:=I7 q;have g:bh pm H (a.new (.cells [.bool (decide (-q<0)),d,e] (.t T.Cv)))/\fA (a.new (.cells [.bool (decide (-q<0)),d,e] (.t T.Cv))) (ptr a.next) (-q):=by
  have h:bh pm a (a.new (.cells [.bool (decide (-q<0)),d,e] (.t T.Cv))):=(bh.refl c.ok).new _;exact⟨c.trans h,⟨.inr ⟨a.next,_,d,e,rfl,b4,⟨rfl,rfl⟩,by rw[o];exact f.u c.ok h,by rw[p];exact k.u c.ok h⟩⟩,_,_,_,rfl,b4⟩
 by_cases i:q<0
 ·simp[i];refine aq.not ?_;rw[l]at g
  rcases f.ptr with⟨rfl,_⟩ | ⟨a2,rfl⟩<;>rcases k.ptr with⟨rfl,_⟩ | ⟨a3,rfl⟩<;>simp[b.make,b.pick]<;>simpa [i]using g
 ·simp[i];refine aq.of (pW j f m.1 n) ?_;rintro _ a ⟨rfl,rfl⟩;rw[l]at g
  rcases f.ptr with⟨rfl,_⟩ | ⟨a2,rfl⟩<;>rcases k.ptr with⟨rfl,_⟩ | ⟨a3,rfl⟩<;>simp[b.make,b.pick]<;>simpa [i]using g
theorem MA(a:c4 X)(d:bR pm H){v w:Value}{p q:Rat}{k:Nat}(g:eY H v p)(h:eY H w q)(e:aS p k)(f:aS q k)(l:k<67108864):
 Call X pm F.fV [v,w] H λr aa=>bh pm H aa/\fA aa r (p*q):=by
 refine Call.has a.fV rfl ?_;simp;refine aq.of (lk a d g) ?_;rintro _ _ ⟨c,_,_,rfl,i,j⟩;simp;refine aq.of (lk a c.ok (h.u d c)) ?_;rintro _ _ ⟨b,_,_,rfl,d,g⟩;simp;refine aq.of (pn a b.ok (i.u c.ok b) d e.1 f.1) ?_;rintro _ _ ⟨d,h⟩;simp;refine aq.of (pn a d.ok ((j.u c.ok b).u b.ok d) (g.u b.ok d) e.2 f.2) ?_;rintro _ _ ⟨g,i⟩;simp;refine aq.of (sZ a g.ok (neg:=!(decide (p<0)==decide (q<0))) (h.u d.ok g) i (jz e.1 f.1) (jz e.2 f.2) (pA p.den_nz q.den_nz)) ?_;rintro _ _ ⟨a,_⟩;simp;refine⟨c.trans (b.trans (d.trans (g.trans a))),?_⟩;have:p*q=fs (!(decide (p<0)==decide (q<0))) (p.num.natAbs*q.num.natAbs) (p.den*q.den):=by
  rw[Rat.mul_def',r6];congr 1;rw[kV p,kV q];unfold hA;cases decide (p<0)<;>cases decide (q<0)<;>simp[Int.mul_neg,Int.neg_mul]
 grind
end
theorem H9{q:Rat}(b:q≠0)(p:Rat):p/q=fs (!(decide (p<0)==decide (q<0))) (p.num.natAbs*q.den) (p.den*q.num.natAbs):=by
 have c:q.num.natAbs≠0:=by
  intro _;exact b (Rat.num_eq_zero.1 (by omega))
 have b:fs (!(decide (p<0)==decide (q<0))) (p.num.natAbs*q.den) (p.den*q.num.natAbs)*q=p:=by
  have d:q=mkRat (hA (decide (q<0)) q.num.natAbs) q.den:=by rw[<-kV];exact(Rat.mkRat_self q).symm
  have e:p=mkRat (hA (decide (p<0)) p.num.natAbs) p.den:=by rw[<-kV];exact(Rat.mkRat_self p).symm
  generalize g:p.num.natAbs=P at*
  generalize h:q.num.natAbs=Q at*
  have a:=p.den_nz;have f:=q.den_nz;generalize i:p.den=b at*
  generalize j:q.den=b at*
  generalize k:decide (p<0)=s at*
  generalize l:decide (q<0)=t at*
  rw[d,e,r6,Rat.mkRat_mul_mkRat,Rat.mkRat_eq_iff (pA (pA a c) f) a];unfold hA;simp only[u6];cases s<;>cases t<;>simp<;>grind
 grind
section
variable[bq]
theorem Md(a:c4 X)(d:bR pm H){v w:Value}{p q:Rat}{k:Nat}(g:eY H v p)(l:eY H w q)(e:aS p k)(f:aS q k)(o:k<67108864):
 Call X pm F.jc [v,w] H λr aa=>bh pm H aa/\(q=0/\r=.tuple #[.pointer none,.bool false]∨q≠0/\∃x,r=.tuple #[x,.bool true]/\fA aa x (p/q)):=by
 refine Call.has a.jc rfl ?_;simp;refine aq.of (lk a d g) ?_;rintro _ _ ⟨c,_,_,rfl,k,m⟩;simp;refine aq.of (lk a c.ok (l.u d c)) ?_;rintro _ _ ⟨b,_,_,rfl,g,d⟩;simp;refine aq.of (pn a b.ok (k.u c.ok b) d e.1 f.2) ?_;rintro _ _ ⟨d,k⟩;simp;refine aq.of (pn a d.ok ((m.u c.ok b).u b.ok d) (g.u b.ok d) e.2 f.1) ?_;rintro _ _ ⟨g,l⟩;simp;refine aq.of (F0 a g.ok (neg:=!(decide (p<0)==decide (q<0))) (k.u d.ok g) l (jz e.1 f.2) (jz e.2 f.1) (by omega)) ?_;have i:=c.trans (b.trans (d.trans g));rintro _ _ ⟨j,⟨h,rfl⟩ | ⟨h,x,rfl,n⟩⟩
 ·have:q=0:=by
   rcases Nat.mul_eq_zero.1 h with h | h
   ·exact absurd h p.den_nz
   ·simp_all
  simp;exact⟨i.trans j,this⟩
 ·have:q≠0:=by
   rintro rfl;simp at h
  simp;exact⟨i.trans j,this,by rw[H9 this];exact n⟩
def MI(H:ad)(r:Value)(t:Int)(b:Nat):Prop:=∃s x j,r=.tuple #[.bool s,x]/\bV H x j/\hA s j=t/\j<=b
theorem Lb(b:c4 X)(c:bR pm H){p q:Bool}{v w:Value}{n m k:Nat}(d:bV H v n)(e:bV H w m)(f:n<4294967296^k)(g:m<4294967296^k)(h:k<268435456):
 Call X pm F.mW [.bool p,v,.bool q,w] H λr aa=>bh pm H aa/\MI aa r (hA p n+hA q m) (n+m):=by
 refine Call.has b.mW rfl ?_;by_cases j:p=q
 ·subst j;simp;refine aq.of (zv b c d e f g h) ?_;rintro r _ ⟨a,i⟩;simp;exact⟨a,p,r,n+m,rfl,i,by unfold hA;grind,bg _⟩
 ·have k:(p==q)=false:=by simpa using j
  simp[k];refine aq.of (IN b c d e f g h) ?_;rintro _ _ ⟨a,⟨_,rfl⟩ | ⟨l,x,rfl,i⟩⟩
  ·simp;refine aq.of (IN b a.ok (e.u c a) (d.u c a) g f h) ?_;rintro _ _ ⟨o,⟨_,rfl⟩ | ⟨l,x,rfl,i⟩⟩
   ·omega
   ·simp;refine⟨a.trans o,q,x,m-n,rfl,i,?_,by omega⟩;unfold hA;grind
  ·simp;refine⟨a,p,x,n-m,rfl,i,?_,by omega⟩;unfold hA;grind
theorem Fw(a:c4 X)(o:bR pm H){v w:Value}{p q:Rat}{k:Nat}(u:eY H v p)(x:eY H w q)(b:aS p k)(c:aS q k)(A:k<67108864):
 Call X pm F.gq [v,w] H λr aa=>bh pm H aa/\fA aa r (p+q):=by
 refine Call.has a.gq rfl ?_;simp;refine aq.of (lk a o u) ?_;rintro _ _ ⟨e,_,_,rfl,y,z⟩;simp;refine aq.of (lk a e.ok (x.u o e)) ?_;rintro _ s ⟨d,_,_,rfl,i,g⟩;have j:=y.u e.ok d;have h:=z.u e.ok d;simp;refine aq.of (pW a j b.1 (by omega)) ?_;rintro _ s ⟨rfl,rfl⟩;have k:=e.trans d;by_cases e:p.num=0
 ·have m:p=0:=Rat.num_eq_zero.1 e;simp[e];refine aq.of (sZ a d.ok (neg:=decide (q<0)) i g c.1 c.2 q.den_nz) ?_;rintro r _ ⟨n,f⟩;rw[I8]at f;simp;rw[m,Rat.zero_add];exact⟨k.trans n,f⟩
 simp[e];refine aq.of (zU a h g b.2 c.2 (by omega)) ?_;rintro _ s ⟨rfl,rfl⟩;have e:p=mkRat (hA (decide (p<0)) p.num.natAbs) p.den:=by rw[<-kV];exact(Rat.mkRat_self p).symm
 have e:q=mkRat (hA (decide (q<0)) q.num.natAbs) q.den:=by rw[<-kV];exact(Rat.mkRat_self q).symm
 by_cases l:p.den=q.den
 ·have e:e1 p.den q.den=0:=by simp[e1,l]
  simp[e];refine aq.of (Lb a d.ok (p:=decide (p<0)) (q:=decide (q<0)) j i b.1 c.1 (by omega)) ?_;rintro _ _ ⟨f,m,_,n,rfl,e,o,s⟩;simp;refine aq.of (sZ a f.ok (neg:=m) e (h.u d.ok f) (cV s (xV b.1 c.1)) (kg b.2 (by omega)) p.den_nz) ?_;rintro r _ ⟨e,_⟩;simp;refine⟨k.trans (f.trans e),?_⟩;have:p+q=fs m n p.den:=by
   rw[r6,o,l,Rat.add_def',<-kV,<-kV,l,<-Int.add_mul];exact Rat.mkRat_mul_right q.den_nz
  grind
 ·have v:e1 p.den q.den≠0:=by unfold e1;split<;>simp
  simp[v];refine aq.of (pn a d.ok j g b.1 c.2) ?_;rintro _ _ ⟨f,e⟩;simp;refine aq.of (pn a f.ok (i.u d.ok f) (h.u d.ok f) c.1 b.2) ?_;rintro _ _ ⟨m,i⟩;simp;refine aq.of (Lb a m.ok (p:=decide (p<0)) (q:=decide (q<0)) (e.u f.ok m) i (jz b.1 c.2) (jz c.1 b.2) (by omega)) ?_;rintro _ _ ⟨n,t,_,w,rfl,i,j,l⟩;have e:=f.trans (m.trans n);simp;refine aq.of (pn a n.ok (h.u d.ok e) (g.u d.ok e) b.2 c.2) ?_;rintro _ _ ⟨d,f⟩;simp;refine aq.of (sZ a d.ok (neg:=t) (i.u n.ok d) f (cV l (xV (jz b.1 c.2) (jz c.1 b.2))) (kg (jz b.2 c.2) (by omega)) (pA p.den_nz q.den_nz)) ?_;rintro r _ ⟨a,_⟩;simp;refine⟨k.trans (e.trans (d.trans a)),?_⟩;have:p+q=fs t w (p.den*q.den):=by
   rw[r6,j,Rat.add_def'];congr 1;rw[kV p,kV q];unfold hA;cases decide (p<0)<;>cases decide (q<0)<;>simp[Int.neg_mul]
  grind
end
theorem oF{q:Rat}{k:Nat}(h:aS q k):aS (-q) k:=by
 obtain⟨a,b,_⟩:=I7 q;exact⟨by rw[a];exact h.1,by rw[b];exact h.2⟩
section
variable[bq]
theorem Gb(a:c4 X)(c:bR pm H){v w:Value}{p q:Rat}{k:Nat}(e:eY H v p)(b:eY H w q)(f:aS p k)(d:aS q k)(g:k<67108864):
 Call X pm F.ik [v,w] H λr aa=>bh pm H aa/\fA aa r (p-q):=by
 refine Call.has a.ik rfl ?_;simp;refine aq.of (FZ a c b d (by omega)) ?_;rintro _ _ ⟨b,h⟩;simp;refine aq.of (Fw a b.ok (e.u c b) h.1 f (oF d) g) ?_;rintro _ _ ⟨a,_⟩;simp;exact⟨b.trans a,by grind⟩
theorem LY(a:c4 X)(c:bR pm H){v w:Value}{p q:Rat}{k:Nat}(d:eY H v p)(e:eY H w q)(f:aS p k)(g:aS q k)(h:aS (p-q) (2*k+1))(i:k<67108864):
 Call X pm F.gJ [v,w] H λr aa=>bh pm H aa/\r=.int .i64 (if p<q then -1 else if p=q then 0 else 1):=by
 refine Call.has a.gJ rfl ?_;simp;refine aq.of (Gb a c d e f g i) ?_;rintro _ _ ⟨b,c⟩;simp;refine aq.of (F' a b.ok c.1 h (by omega)) ?_;rintro _ _ ⟨j,rfl⟩;have a:(p-q<0)↔(p<q):=by constructor<;>intro h<;>grind
 have c:(p-q=0)↔(p=q):=by constructor<;>intro h<;>grind
 simp[a,c];exact b.trans j
end
end Go.Dam.C
namespace Go.Dam
open Go
abbrev aA(l:List UInt8):Value:=.string ⟨l.toArray⟩
@[simp] theorem I6(l:List UInt8):(ByteArray.mk l.toArray).size=l.length:=rfl
@[simp] theorem mk_data(l:List UInt8):(ByteArray.mk l.toArray).data=l.toArray:=rfl
theorem Gm{a b:ByteArray}(h:a.data.toList=b.data.toList):a=b:=by
 obtain⟨⟨a⟩⟩:=a;obtain⟨⟨b⟩⟩:=b;exact congrArg (λl:List UInt8=>ByteArray.mk ⟨l⟩) h
theorem IV(a:ByteArray):∀(n i:Nat) (r:List UInt8),a.size-i=n->ByteArray.toList.loop a i r=r.reverse++a.data.toList.drop i:=by
 intro n
 induction n with
 | zero=>
   intro i r _;rw[ByteArray.toList.loop];have b:¬i<a.size:=by omega
   rw[aC b,List.drop_eq_nil_of_le (by have:a.data.toList.length=a.size:=jE;omega)];simp
 | succ n ih=>
   intro i r _;rw[ByteArray.toList.loop];have b:i<a.size:=by omega
   have c:i<a.data.toList.length:=by rw[jE];exact b
   rw[aT b,ih (i+1) _ (by omega),List.drop_eq_getElem_cons c];have b:a.get! i=a.data.toList[i]:=by
    show a.data[i]! = _;rw[getElem!_pos a.data i (by simpa using c)];simp
   rw[b];simp
@[simp] theorem UO(l:List UInt8):(ByteArray.mk l.toArray).toList=l:=by
  unfold ByteArray.toList;rw[IV _ _ 0 [] rfl];simp
theorem iP(s:ByteArray):s.toList=s.data.toList:=by
 unfold ByteArray.toList;rw[IV _ _ 0 [] rfl];simp
@[simp] theorem UN(l:List UInt8)(i j:Nat):(ByteArray.mk l.toArray).extract i j=⟨((l.drop i).take (j-i)).toArray⟩:=by
  apply Gm;simp[ByteArray.data_extract,List.extract_eq_take_drop]
@[simp] theorem UM(a b:List UInt8):(ByteArray.mk a.toArray++ByteArray.mk b.toArray)=⟨(a++b).toArray⟩:=by
  apply Gm;simp[ByteArray.data_append]
end Go.Dam
namespace Go.Dam.C
open Go Go.Dam
theorem Kq(c:Nat):Lib.repeatL [48] c=List.replicate c 48:=by
 induction c with
 | zero=>rfl
 | succ c ih=>rw[Lib.repeatL,ih];rfl
theorem uB{u k:Nat}(h:u<10^k)(a:1<=k):Lib.nDigits u<=k:=by
 induction k generalizing u with
 | zero=>omega
 | succ k ih=>
   by_cases a:u<10
   ·rw[Lib.nDigits_small a];omega
   ·rw[Lib.nDigits_big a];rw[dH]at h;have b:1<=k:=by
     cases k with
     | zero=>simp at h;omega
     | succ k=>omega
    have:=ih (u:=u/10) (by omega) b;omega
section
variable[bq]
def qH:Nat->Nat->List UInt8
 | 0,_=>[]
 | k+1,r=>qH k (r/10)++[UInt8.ofNat (48+r%10)]
end
theorem Ha{q:Nat}(a:0<q):∀{k r:Nat},r<10^k->Lib.decDigits (q*10^k+r)=Lib.decDigits q++qH k r
 | 0,r,h=>by
   have:r=0:=by simpa using h
   subst this;simp[qH]
 | k+1,r,h=>by
   rw[dH]at h;have b:1<=10^k:=sA _ _ (by decide);have c:1<=q*10^k:=pC a b;have e:q*10^(k+1)+r=10*(q*10^k)+r:=by rw[dH];grind
   rw[e,Lib.decDigits,dif_neg (by omega)];have b:(10*(q*10^k)+r)/10=q*10^k+r/10:=by omega
   have c:(10*(q*10^k)+r)%10=r%10:=by omega
   rw[b,c,Ha a (k:=k) (r:=r/10) (by omega),qH,sw]
theorem JY:∀{k r:Nat},1<=k->r<10^k->qH k r=List.replicate (k-Lib.nDigits r) 48++Lib.decDigits r
 | 0,r,_,_=>by omega
 | 1,r,_,h=>by
   have h:r<10:=by simpa using h
   rw[Lib.nDigits_small h,Lib.decDigits_one h];simp[qH,k0 h]
 | k+2,r,_,h=>by
   rw[qH,JY (k:=k+1) (r:=r/10) (by omega) (by rw[dH]at h;omega)];by_cases a:r<10
   ·have e:r/10=0:=by omega
    rw[e,Lib.nDigits_small a,Lib.nDigits_small (by omega),Lib.decDigits_one (by omega:0<10),Lib.decDigits_one a,k0 a];rw[show k+2-1=(k+1-1)+1 by omega,List.replicate_succ',sw,sw];rfl
   ·rw[Lib.nDigits_big a,sw,show k+2-(Lib.nDigits (r/10)+1)=k+1-Lib.nDigits (r/10) by omega];congr 1
    conv=>rhs;rw[Lib.decDigits,dif_neg a]
section
variable[bq]
def gT(n:Nat):List UInt8:=if n=0 then[] else Lib.decDigits n
end
theorem NT(m:Nat)(b:m≠0):gT (m/1000000000)++(if m/1000000000=0 then Lib.decDigits (m%1000000000) else Lib.repeatL [48] (9-(Lib.decDigits (m%1000000000)).length)++Lib.decDigits (m%1000000000))=gT m:=by
 have a:gT m=Lib.decDigits m:=by simp[gT,b]
 by_cases h:m/1000000000=0
 ·rw[a,h];have:m%1000000000=m:=by omega
  simp[gT,this]
 ·rw[a,aC h,Kq,Lib.decDigits_length,<-JY (k:=9) (by omega) (by show m%1000000000<1000000000;omega)];rw[gT,aC h,<-Ha (by omega) (by show m%1000000000<1000000000;omega)];congr 1;show m/1000000000*1000000000+m%1000000000=m;omega
theorem uc{n k:Nat}(h:n<4294967296^k)(a:1<=k):(Lib.decDigits n).length<=10*k:=by
 rw[Lib.decDigits_length];refine uB ?_ (by omega);rw[mY];exact eC h (x9 (by decide) k)
theorem wU(n:Nat):Lib.decDigits n≠[]:=by
 intro h;have:=Lib.decDigits_length n;rw[h]at this;have:=Lib.nDigits_pos n;simp at*
 omega
end Go.Dam.C
namespace Go.Dam.C
open Go Go.Dam
variable[bq]
def Ta:bk:=.cr (.nat 0)
def j0(H:ad):Bool:=match H.get 1 with
 | some (.cr (.nat 0))=>true
 | _=>false
def rT(_:Perm)(args:List Value)(H:ad):Option (Value×ad):=match args with
 | [.int .u64 (.ofNat u),.int .i64 b]=>bif fQ b 10&&(Nat.blt u 18446744073709551616&&j0 H) then some (aA (Lib.decDigits u),H) else none
 | _=>none
def rU(_:Perm)(args:List Value)(H:ad):Option (Value×ad):=match args with
 | [.string s,.int .i64 (.ofNat c)]=>bif Nat.ble c 1000&&Nat.ble s.size 1000 then some (aA (Lib.repeatL s.data.toList c),H) else none
 | _=>none
def uj(_:Perm)(args:List Value)(H:ad):Option (Value×ad):=match args with
 | [.string s,.string c]=>bif Nat.ble s.size 1000000&&(Nat.ble c.size 1000&&c.data.toList.all λb=>Nat.blt b.toNat 128) then some (aA (Lib.trimS s.data.toList c.data.toList),H) else none
 | _=>none
def ui(_:Perm)(args:List Value)(H:ad):Option (Value×ad):=match args with
 | [.string s,.int .i64 b,.int .i64 c]=>bif fQ b 10&&(fQ c 32&&Nat.ble s.size 1000000) then(match Lib.parseUintB 32 s.data.toList with
   | .ok u=>some (.tuple #[.int .u64 (u:Int),.nilIface],H)
   | _=>none) else none
 | _=>none
def qi(_:Perm)(args:List Value)(H:ad):Option (Value×ad):=match args with
 | [.string s,.int .u8 (.ofNat c)]=>bif Nat.blt c 256 then some (.int .i64 (iU c s.data.toList 0),H) else none
 | _=>none
structure fT(X:ar):Prop extends c4 X where
 idx:X.eS F.zD=some qi
 l9:Has X F.l9 C.l9
 l':Has X F.l' C.l'
 l5:Has X F.l5 C.l5
 l6:Has X F.l6 C.l6
 l7:Has X F.l7 C.l7
 oC:Has X F.oC C.oC
 nn:Has X F.nn C.nn
 fmt:X.eS F.Da=some rT
 rep:X.eS F.Dg=some rU
 trim:X.eS F.vq=some uj
 parse:X.eS F.Db=some ui
variable{X:ar}{pm:Perm}{H aa:ad}
def Tab(H:ad):Prop:=H.get 1=some Ta
theorem Tab.u(h:Tab H)(a:bR pm H)(b:bh pm H aa):Tab aa:=b.some a h
end Go.Dam.C
namespace Go.Dam.C
open Go Go.Dam
variable{X:ar}{pm:Perm}{H aa:ad}
theorem Ow(a:fT X)(b:Tab H){u:Nat}(c:u<18446744073709551616):Call X pm F.Da [.int .u64 (u:Int),.int .i64 10] H λr aa=>aa=H/\r=aA (Lib.decDigits u):=by
 refine Call.over a.fmt (v:=aA (Lib.decDigits u)) (aa:=H) ?_ ⟨rfl,rfl⟩;show rT pm [.int .u64 (.ofNat u),.int .i64 10] H=_;have a:j0 H=true:=by unfold j0;rw[b];rfl
 simp only[rT,a,fG,c,decide_true];rfl
theorem Sk(a:fT X){l:List UInt8}{c:Nat}(b:c<=1000)(g':l.length<=1000):Call X pm F.Dg [aA l,.int .i64 (c:Int)] H λr aa=>aa=H/\r=aA (Lib.repeatL l c):=by
 refine Call.over a.rep (v:=aA (Lib.repeatL l c)) (aa:=H) ?_ ⟨rfl,rfl⟩;show rU pm [aA l,.int .i64 (.ofNat c)] H=_;simp[rU,cg,b,g']
end Go.Dam.C
namespace Go.Dam.C
open Go Go.Dam
variable[bq]
attribute [simp] pO
variable{X:ar}{pm:Perm}{H aa:ad}
theorem NF(b:bR pm H){r:Value}{a:List Nat}(c:cE H r a)(d:a.length<=1073741824):
 ∃f d,aQ.run pm (ei 1 r λnew n=>eN 1 4 (.slice none 0 0) new n) H=some (f,d)/\bh pm H d/\cE d f a:=by
 by_cases e:a=[]
 ·subst e;refine⟨.slice none 0 0,H,?_,.refl b,.nil⟩;obtain⟨_,⟨rfl,_⟩ | ⟨_,a,_,_,g,rfl,d,f,_,h,_⟩⟩:=id c
  ·simp[eN]
  ·simp[d,f.row,bx,eN,cg,show a<=g.length by simpa using h]
 ·obtain⟨_,_,_,_,_,rfl,g,h,i⟩:=c.parts e;have d:0<a.length:=qQ.2 e;have j:(bU a).all c6=true:=by
   rw[eD];intro _ a;obtain⟨_,_,rfl⟩:=k1.1 a;rfl
  refine⟨.slice (some ⟨H.next,0,none⟩) a.length a.length,H.new (.cells (bU a) (.n 1)),?_,(bh.refl b).new _,c.1,.inr ⟨H.next,0,a.length,_,bU a,rfl,b4,.inl rfl,?_,?_,bg _,b.new _ (bg _)⟩⟩
  ·simp[g,h,i,eN,cg,j,show ¬a.length=0 by omega,show a.length*4<=17179869184 by omega,show a.length<=17179869184 by omega,b.make,b.pick]
  ·rw[List.drop_zero,mZ (by simp[bU])]
  ·simp[bU]
theorem zs(d:fT X)(t:bR pm H)(E:Tab H){v:Value}{n k:Nat}(G:bV H v n)(w:n<4294967296^k)(I:1<=k)(M:k<100000000):
 Call X pm F.mJ [v] H λr aa=>bh pm H aa/\r=aA (Lib.decDigits n):=by
 obtain⟨J,K,x,z⟩:=G.out;have L:=fv x z w;refine Call.has d.mJ rfl ?_;simp;refine aq.of (gl d.cN K) ?_;rintro _ _ ⟨rfl,G⟩;obtain⟨K,M,N,h,O⟩:=NF t G (by omega);simp[-ei,N];refine ef.of (λs:Value×List Nat×List UInt8=>[(3,s.1),(4,aA s.2.2)]) (λs aa=>bh pm M aa/\cE aa s.1 s.2.1/\strip s.2.1=s.2.1/\s.2.1.length<=k/\gT (ay s.2.1)++s.2.2=gT n) (λs=>ay s.2.1) (K,J,[]) (by simp) ⟨.refl h.ok,O,x,L,by simp[z]⟩ ?_;rintro⟨_,a,s⟩ _ ⟨e,i,A,B,f⟩;simp only at i A B f;obtain⟨_,_,rfl⟩:=i.form;have x:(gT n).length<=10*k:=by
  unfold gT;split
  ·simp
  ·exact uc w I
 by_cases q:a=[]
 ·subst q;have c:s=gT n:=by simpa [ay,gT]using f
  simp[c];by_cases b:n=0
  ·subst b;simp[gT];exact⟨h.trans e,by rw[Lib.decDigits_one (by omega)];rfl⟩
  ·have:gT n=Lib.decDigits n:=by simp[gT,b]
   rw[this];simp[wU n];exact h.trans e
 ·have w:0<a.length:=qQ.2 q;have F:ay a≠0:=by
   have:=sc A q;have:=qN (n:=a.length-1) (show 0<4294967296 by decide);omega
  simp[w];refine aq.of (La d.toc4 e.ok i (by omega) (y:=1000000000) (by omega) (by omega)) ?_;rintro _ _ ⟨j,_,b,rfl,q,g,_⟩;simp;refine aq.of (BU d.dp j.ok q (by omega)) ?_;rintro _ v ⟨r,_,_,_,rfl,q,w,m⟩;have x:=h.trans (e.trans (j.trans r));simp[q,w];refine aq.of (Ow d (E.u t x) (u:=ay a%1000000000) (by omega)) ?_;rintro _ v ⟨rfl,rfl⟩;obtain⟨C,D,rfl⟩:=m.form;have H:(strip b).length<=k:=by
   have:=fv (k:=k) (sY b) (j' b) (by rw[g];exact cV (kk _ _) (eC (lO i.1) (fX (by decide) B)));exact this
  have o:=Lib.decDigits_length (ay a%1000000000);have h:Lib.nDigits (ay a%1000000000)<=9:=uB (by show _<1000000000;omega) (by omega);have p:=NT (ay a) F;have h:s.length<=10*k:=by
   have:=congrArg List.length f;simp at this;omega
  have P:ay a/1000000000<ay a:=by omega
  by_cases h:strip b=[]
  ·have c:ay a/1000000000=0:=by rw[<-g,<-j',h];rfl
   rw[aT c]at p;simp[h,cg,o,show Lib.nDigits (ay a%1000000000)+s.length<=4294967296 by omega];refine .of (.slice C 0 D,[],Lib.decDigits (ay a%1000000000)++s) (by show ay []<ay a;simp[ay];omega) (by simp) ⟨e.trans (j.trans r),by rw[h]at m;exact m,by simp[strip],by simp,?_⟩;show gT (ay [])++(_++s)=gT n;rw[<-f,<-p,c];simp[ay]
  ·have i:ay a/1000000000≠0:=by
    rw[<-g,<-j'];have:=sc (sY b) h;have:=qN (n:=(strip b).length-1) (show 0<4294967296 by decide);omega
   rw[aC i]at p;have i:wr .i64 ((9:Int)-((Lib.nDigits (ay a%1000000000):Nat):Int))=((9-Lib.nDigits (ay a%1000000000):Nat):Int):=by rw[b8];omega
   have k:0<(strip b).length:=qQ.2 h;simp[k,cg,o,i];refine aq.of (Sk d (l:=[48]) (c:=9-Lib.nDigits (ay a%1000000000)) (by omega) (by simp)) ?_;rintro _ v ⟨rfl,rfl⟩;have d:(Lib.repeatL [48] (9-Lib.nDigits (ay a%1000000000))).length=9-Lib.nDigits (ay a%1000000000):=by rw[Kq];simp
   simp[cg,o,d,show 9-Lib.nDigits (ay a%1000000000)+Lib.nDigits (ay a%1000000000)<=4294967296 by omega,show 9-Lib.nDigits (ay a%1000000000)+Lib.nDigits (ay a%1000000000)+s.length<=4294967296 by omega];refine .of (.slice C (strip b).length D,strip b,Lib.repeatL [48] (9-Lib.nDigits (ay a%1000000000))++Lib.decDigits (ay a%1000000000)++s) (by show ay (strip b)<ay a;rw[j',g];exact P) (by simp) ⟨e.trans (j.trans r),m,sY b,H,?_⟩;show gT (ay (strip b))++(_++s)=gT n;rw[j',g,<-f,<-p,o];simp
end Go.Dam.C
namespace Go.Dam.C
open Go Go.Dam
variable{X:ar}{pm:Perm}{H aa:ad}
section
variable[bq]
def e3(c:UInt8):Bool:=Nat.ble 48 c.toNat&&Nat.ble c.toNat 57
def ly(a:Nat)(l:List UInt8):Nat:=l.foldl (λb c=>b*10+(c.toNat-48)) a
def c'(l:List UInt8):Nat:=ly 0 l
end
theorem NU(l:List UInt8):∀a,ly a l=a*10^l.length+c' l:=by
 induction l with
 | nil=>intro a;simp[ly,c']
 | cons c l ih=>
   intro a;have b:=ih (a*10+(c.toNat-48));have a:=ih (0*10+(c.toNat-48));simp only[c',ly,sy]at b a|-;rw[b,a,gu,dH];grind
theorem Aq(a b:List UInt8):c' (a++b)=c' a*10^b.length+c' b:=by
 rw[c',ly,List.foldl_append];exact NU b _
theorem wT{l:List UInt8}(h:l.all e3=true):c' l<10^l.length:=by
 induction l with
 | nil=>simp[c',ly]
 | cons c l ih=>
   simp only[nc,b3]at h;have a:=ih h.2;have a:c' (c::l)=(c.toNat-48)*10^l.length+c' l:=by
    have:=Aq [c] l;simpa [c',ly]using this
   have b:c.toNat-48<=9:=by
    have:=h.1;simp[e3,cg]at this;omega
   rw[a,gu,dH];have:=e8 (10^l.length) b;omega
theorem J0:∀(l:List UInt8) (a:Nat),l.all e3=true->(a+1)*10^l.length<=1000000000->Lib.parseUintM (2^32-1) a l=.ok (ly a l)
 | [],a,_,_=>rfl
 | c::l,a,h,d=>by
   simp only[nc,b3]at h;have b:=h.1;simp[e3,cg]at b;rw[gu,dH]at d;have f:1<=10^l.length:=sA _ _ (by decide);have e:(a*10+(c.toNat-48)+1)*10^l.length<=1000000000:=by
    refine aY (e8 _ (show a*10+(c.toNat-48)+1<=(a+1)*10 by omega)) ?_;rw[jC,dW 10];exact d
   have d:a*10+(c.toNat-48)+1<=1000000000:=aY (sJ _ f) e;rw[Lib.parseUintM,aT ⟨b.1,b.2⟩,aC (by omega),aC (by omega)];exact J0 l _ h.2 e
section
variable[bq]
abbrev pS:List UInt8:=[48,49,50,51,52,53,54,55,56,57]
end
theorem Tp(c:UInt8):pS.contains c=e3 c:=by
 have:∀n:_root_.Fin 256,pS.contains (UInt8.ofNat n.val)=e3 (UInt8.ofNat n.val):=by decide +kernel
 have h:=this ⟨c.toNat,c.toNat_lt⟩;simpa using h
theorem dropWhile_nil{p:UInt8->Bool}:∀{l:List UInt8},l.dropWhile p=[]->l.all p=true
 | [],_=>rfl
 | c::l,h=>by
   rw[List.dropWhile_cons]at h;split at h
   ·rename_i a;simp[a];have:=dropWhile_nil h;simpa using this
   ·cases h
theorem Lx{l:List UInt8}:(Lib.trimS l pS=[])↔l.all e3=true:=by
 have e:(λc=>pS.contains c)=e3:=funext Tp;constructor
 ·intro h;unfold Lib.trimS Lib.trimLeftS Lib.trimRightS at h;rw[e]at h;have a:=dropWhile_nil h;rw[List.all_reverse]at a;have b:(l.reverse.takeWhile e3).all e3=true:=by
   exact List.all_takeWhile
  have d:l.reverse.all e3=true:=by
   rw[<-List.takeWhile_append_dropWhile (p:=e3) (l:=l.reverse),List.all_append,b,a];rfl
  rwa [List.all_reverse]at d
 ·intro h;unfold Lib.trimS Lib.trimLeftS Lib.trimRightS;rw[e];have a:l.reverse.dropWhile e3=[]:=by
   have:l.reverse.all e3=true:=by rw[List.all_reverse];exact h
   generalize l.reverse=m at*
   induction m with
   | nil=>rfl
   | cons c m ih=>
     simp only[nc,b3]at this;rw[List.dropWhile_cons,aT this.1];exact ih this.2
  rw[a];rfl
theorem TC(a:fT X){l:List UInt8}(g':l.length<=1000000):Call X pm F.vq [aA l,aA pS] H λr aa=>aa=H/\r=aA (Lib.trimS l pS):=by
 refine Call.over a.trim (v:=aA (Lib.trimS l pS)) (aa:=H) ?_ ⟨rfl,rfl⟩;simp only[uj,cg,I6,g',decide_true,Bool.true_and];rfl
theorem RQ(a:fT X){l:List UInt8}(h:l.all e3=true)(ez:l≠[])(b:l.length<=9):Call X pm F.Db [aA l,.int .i64 10,.int .i64 32] H λr aa=>aa=H/\r=.tuple #[.int .u64 ((c' l:Nat):Int),.nilIface]:=by
 refine Call.over a.parse (v:=.tuple #[.int .u64 ((c' l:Nat):Int),.nilIface]) (aa:=H) ?_ ⟨rfl,rfl⟩;have a:Lib.parseUintB 32 l=.ok (c' l):=by
  unfold Lib.parseUintB;rw[aC ez];refine J0 l 0 h ?_;have:10^l.length<=10^9:=fX (by decide) b;omega
 simp only[ui,cg,I6,show l.length<=1000000 by omega,decide_true];simp[a]
section
variable[bq]
def gm(l:List UInt8):Bool:=!l.isEmpty&&(Nat.ble l.length 2000&&(!(Nat.blt 1 l.length&&l.head? ==some 48)&&l.all e3))
end
theorem Kg(n:Nat):10^n<=4294967296^n:=x9 (by decide) n
theorem MQ{p:UInt8->Bool}{l:List UInt8}(h:l.all p=true)(k:Nat):(l.take k).all p=true/\(l.drop k).all p=true:=by
 have:=h;rw[<-uY k l,List.all_append,b3]at this;exact this
section
variable[bq]
def oX(pm:Perm)(H:ad)(l:List UInt8):b5:=λx b aa=>(x=dS.normal∨x=dS.ret)/\∃a,hU b aa [.slot 2,.slot 3]=some a/\(bh pm H aa/\(gm l=false/\f' a=.tuple #[.pointer none,.bool false]∨gm l=true/\∃p,f' a=.tuple #[p,.bool true]/\bV aa p (c' l)))
theorem Mq(b:fT X)(j:bR pm H){l:List UInt8}(AW:gm l=true)(B:l.all e3=true)(o:l.length<=2000)(G:1<=l.length){L:bb}(C:aK 0 L=some (aA l)):
 wp X pm (.code po) L H [] (oX pm H l):=by
 simp;refine aq.of (BU b.dp j cE.nil (by simp)) ?_;rintro j o ⟨D,p⟩;have p:bV o j 0:=(show dP o j (strip []) from .inr p).nat;have s:wr .i64 ((l.length%9:Nat):Int)=((l.length%9:Nat):Int):=b8;have N:wr .i64 ((l.length:Int)%9)=((l.length%9:Nat):Int):=by rw[<-s];simp
 simp[C]
 refine ef.of (λs:List UInt8×Nat×Value×Nat=>[(0,aA s.1),(5,.int .i64 (s.2.1:Int)),(4,s.2.2.1)])
  (λs aa=>bh pm o aa/\bV aa s.2.2.1 s.2.2.2/\s.1.all e3=true/\s.1.length<=l.length/\c' l=s.2.2.2*10^s.1.length+c' s.1/\(s.2.1=9->s.1.length%9=0)/\(s.2.1≠9->s.2.1=s.1.length%9/\s.2.2.2=0))
  (λs=>2*s.1.length+(if s.2.1=9 then 0 else 1)) (l,l.length%9,j,0) (by simp[C]) ⟨.refl D.ok,p,B,bg _,by simp,by simp;omega,by simp⟩ ?_
 rintro⟨r,a,I,m⟩ J ⟨c,f,q,E,g,t,d⟩;simp only at f q E g t d;by_cases i:r=[]
 ·subst i;have:m=c' l:=by rw[g];simp[c',ly]
  simp[oX,AW];exact⟨D.trans c,by rw[<-this];exact f⟩
 ·have j:0<r.length:=qQ.2 i;by_cases H:a=0
  ·subst H;have:=d (by omega);simp[i];exact .of (r,9,I,m) (by simp) (by simp) ⟨c,f,eD.1 q,E,g,λ_=>this.1.symm,λh=>absurd rfl h⟩
  ·have j:0<a:=by omega
   have u:a<=r.length/\a<=9:=by
    by_cases h:a=9
    ·have:=t h;omega
    ·have:=d h;omega
   have v:=MQ q a;have w:(r.take a).length=a:=by simp;omega
   have e:(r.drop a).length=r.length-a:=by simp
   simp[i,j,u];refine aq.of (RQ b v.1 (by intro h;rw[h]at w;simp at w;omega) (by omega)) ?_;rintro _ J ⟨rfl,rfl⟩;have K:List.take (r.length-a) (r.drop a)=r.drop a:=mZ (by rw[e];exact bg _);have i:=wT v.1;rw[w]at i;have j:c' (r.take a)<1000000000:=eC i (fX (n:=10) (by decide) u.2);have i:c' r=c' (r.take a)*10^(r.length-a)+c' (r.drop a):=by
    conv=>lhs;rw[<-uY a r]
    rw[Aq,e]
   have F:c' l=(m*1000000000+c' (r.take a))*10^(r.length-a)+c' (r.drop a):=by
    rw[g,i];by_cases h:a=9
    ·have:10^r.length=1000000000*10^(r.length-a):=by
      rw[h,show(1000000000:Nat)=10^9 from rfl,<-fH];congr 1;omega
     rw[this];grind
    ·rw[(d h).2];simp
   have i:=wT B;have j:1<=10^(r.length-a):=sA _ _ (by decide);have g:m*1000000000+c' (r.take a)<4294967296^l.length:=by
    refine cV ?_ (eC i (Kg _));rw[F];exact aY (sJ _ j) (e9 _ _)
   have i:1000000000<4294967296^l.length:=by
    have:4294967296^1<=4294967296^l.length:=fX (by decide) G;omega
   simp;refine aq.of (uK b.toc4 c.ok (x:=1000000000)) ?_;rintro _ _ ⟨y,j⟩;simp;refine aq.of (pn b.toc4 y.ok (f.u c.ok y) j (k:=l.length) (cV (by omega) g) i) ?_;rintro _ _ ⟨z,f⟩;simp;refine aq.of (uK b.toc4 z.ok (x:=c' (r.take a))) ?_;rintro _ _ ⟨A,i⟩;simp;refine aq.of (zv b.toc4 A.ok (f.u z.ok A) i (k:=l.length) (cV (e9 _ _) g) (cV (Nat.le_add_left _ _) g) (by omega)) ?_;rintro b _ ⟨L,M⟩;simp[u];refine .of (r.drop a,9,b,m*1000000000+c' (r.take a)) (by show 2*(r.drop a).length+0<2*r.length+_;rw[e];omega) (by simp;exact K.symm▸rfl) ⟨c.trans (y.trans (z.trans (A.trans L))),M,eD.1 v.2,by simp;omega,by show c' l=_;simp only;rw[e];exact F,λ_=>?_,λh=>absurd rfl h⟩;show(r.drop a).length%9=0;rw[e];by_cases h:a=9
   ·have:=t h;omega
   ·have:=(d h).1;omega
theorem zc(f:fT X)(d:bR pm H){l:List UInt8}:
 Call X pm F.lM [aA l] H λr aa=>bh pm H aa/\(gm l=false/\r=.tuple #[.pointer none,.bool false]∨gm l=true/\∃p,r=.tuple #[p,.bool true]/\bV aa p (c' l)):=by
 refine Call.has f.lM rfl ?_;show wp X pm (.code lM.body) _ H [] (oX pm H l)
 cases a:l with
 | nil=>
   simp;refine aq.not ?_;simp[gm,oX];exact .refl d
 | cons c _=>
   rw[<-a];have e:l.isEmpty=false:=by rw[a];rfl
   have h:l[0]? = some c:=by rw[a];rfl
   have i:l≠[]:=by rw[a];simp
   have i:l.head? = some c:=by rw[a];rfl
   have AW:gm l=(Nat.ble l.length 2000&&(!(Nat.blt 1 l.length&&c==48)&&l.all e3)):=by unfold gm;rw[e,i];simp
   by_cases i:2000<l.length
   ·simp[e,i];refine aq.not ?_;simp[oX,AW,cg,show ¬l.length<=2000 by omega];exact .refl d
   ·simp[e,i];by_cases b:1<l.length/\c.toNat=48
    ·simp[b.1,b.2,h];refine aq.not ?_;have e:c=48:=u3.1 (by rw[b.2];rfl);simp[oX,AW,fG,b.1,e];exact .refl d
    ·have j:∀{L:bb},aK 0 L=some (aA l)->aK 25 L=some (.bool false)->aq X pm ⟨some 27,some (25,false),.call F.vq [.t 26,.c (.string ⟨#[48,49,50,51,52,53,54,55,56,57]⟩)]⟩ F.vq [.t 26,.c (.string ⟨#[48,49,50,51,52,53,54,55,56,57]⟩)] uD ((26,aA l)::L) H [.seq uC,.seq po] (oX pm H l):=by
      intro L k g;refine aq.of (AW:=by simp[g]) (TC f (l:=l) (by omega)) ?_;rintro _ H ⟨rfl,rfl⟩;have i:gm l=l.all e3:=by
       rw[AW];have m:Nat.ble l.length 2000=true:=by simp[cg];omega
       have n:(Nat.blt 1 l.length&&c==48)=false:=by
        by_cases o:1<l.length
        ·by_cases e:c=48
         ·exact absurd ⟨o,by rw[e];rfl⟩ b
         ·simp[e]
        ·simp[fG];omega
       rw[m,n];simp
      by_cases e:l.all e3=true
      ·have l:=Lx.2 e;simp[g,l,-po];exact Mq f d (by rw[i];exact e) e (by omega) (by rw[a];simp) (by simp[k])
      ·have f:Lib.trimS l pS≠[]:=λk=>e (Lx.1 k);simp[g,f,-po,oX,i,e];exact .refl d
     by_cases d:1<l.length
     ·have e:((c.toNat:Int)==48)=false:=by
       have:¬c.toNat=48:=λc=>b ⟨d,c⟩;simp;omega
      simp[d,e,h,-po,-uC,-uD];refine j ?_ ?_<;>simp[*]
     ·simp[d,-po,-uC,-uD];refine j ?_ ?_<;>simp[*]
end
theorem Mu(a:fT X)(c:UInt8)(t:List UInt8):Call X pm F.l7 [aA (c::t),aA [c]] H λr aa=>aa=H/\r=.bool true:=by
 refine Call.has a.l7 rfl ?_;simp[show ¬((t.length:Int)+1<1) by omega]
theorem Mt(a:fT X)(c:UInt8){l:List UInt8}(h:l.head?≠some c):Call X pm F.l7 [aA l,aA [c]] H λr aa=>aa=H/\r=.bool false:=by
 refine Call.has a.l7 rfl ?_
 cases l with
 | nil=>simp
 | cons d t=>
   have:d≠c:=λe=>h (by rw[e];rfl);simp[this,show ¬((t.length:Int)+1<1) by omega]
theorem L5(a:fT X)(c:UInt8)(t:List UInt8):Call X pm F.l' [aA (c::t),aA [c]] H λr aa=>aa=H/\r=.tuple #[aA t,.bool true]:=by
 refine Call.has a.l' rfl ?_;simp;have h:Call X pm F.l6 [aA (c::t),aA [c]] H λr aa=>aa=H/\r=.tuple #[aA t,.bool true]:=by
  refine Call.has a.l6 rfl ?_;simp;refine aq.of (Mu a c t) ?_;rintro _ _ ⟨rfl,rfl⟩;simp
 refine aq.of h ?_;rintro _ _ ⟨rfl,rfl⟩;simp
theorem L4(a:fT X)(c:UInt8){l:List UInt8}(h:l.head?≠some c):Call X pm F.l' [aA l,aA [c]] H λr aa=>aa=H/\r=.tuple #[aA l,.bool false]:=by
 refine Call.has a.l' rfl ?_;simp;have h:Call X pm F.l6 [aA l,aA [c]] H λr aa=>aa=H/\r=.tuple #[aA l,.bool false]:=by
  refine Call.has a.l6 rfl ?_;simp;refine aq.of (Mt a c h) ?_;rintro _ _ ⟨rfl,rfl⟩;simp
 refine aq.of h ?_;rintro _ _ ⟨rfl,rfl⟩;simp
theorem H5:∀{l:List UInt8} {n:Nat},47∉l->iU 47 l n=-1
 | [],_,_=>rfl
 | c::l,n,h=>by
   have a:¬c.toNat=47:=λe=>h (by rw[show c=47 from u3.1 (by rw[e];rfl)];exact .head _);simp only[iU,cC,a,decide_false,cond_false];exact H5 λa=>h (.tail _ a)
theorem H6:∀{a:List UInt8} {b:List UInt8} {n:Nat},47∉a->iU 47 (a++47::b) n=((n+a.length:Nat):Int)
 | [],b,n,_=>by
   simp only[u4,iU,cC];rfl
 | c::a,b,n,h=>by
   have a:¬c.toNat=47:=λe=>h (by rw[show c=47 from u3.1 (by rw[e];rfl)];exact .head _);simp only[kl,iU,cC,a,decide_false,cond_false];rw[H6 λa=>h (.tail _ a)];simp only[gu];congr 1;omega
theorem OT(a:fT X)(l:List UInt8):Call X pm F.zD [aA l,.int .u8 47] H λr aa=>aa=H/\r=.int .i64 (iU 47 l 0):=
 Call.over a.idx (v:=.int .i64 (iU 47 l 0)) (aa:=H) rfl ⟨rfl,rfl⟩
theorem FP(a:fT X)(l:List UInt8):Call X pm F.oC [aA l,aA [47]] H λr aa=>aa=H/\r=.int .i64 (iU 47 l 0):=by
 refine Call.has a.oC rfl ?_;have h:Call X pm F.nn [aA l,.int .u8 47] H λr aa=>aa=H/\r=.int .i64 (iU 47 l 0):=by
  refine Call.has a.nn rfl ?_;simp;refine aq.of (OT a l) ?_;rintro _ _ ⟨rfl,rfl⟩;simp
 by_cases b:[47]=l
 ·subst b;simp;rfl
 simp[b];refine aq.of h ?_;rintro _ _ ⟨rfl,rfl⟩;simp
theorem L7(a:fT X){l:List UInt8}(g':47∉l):Call X pm F.l9 [aA l,aA [47]] H λr aa=>aa=H/\r=.tuple #[aA l,aA [],.bool false]:=by
 refine Call.has a.l9 rfl ?_;simp;have h:Call X pm F.l5 [aA l,aA [47]] H λr aa=>aa=H/\r=.tuple #[aA l,aA [],.bool false]:=by
  refine Call.has a.l5 rfl ?_;simp;refine aq.of (FP a l) ?_;rintro _ _ ⟨rfl,rfl⟩;rw[H5 g'];simp
 refine aq.of h ?_;rintro _ _ ⟨rfl,rfl⟩;simp
section
variable[bq]
theorem L9(c:fT X)(d:bR pm H){a b:List UInt8}(eA:47∉a)(g':a.length<1000000):Call X pm F.l9 [aA (a++47::b),aA [47]] H λr aa=>bh pm H aa/\r=.tuple #[aA a,aA b,.bool true]:=by
 refine Call.has c.l9 rfl ?_;simp;have h:Call X pm F.l5 [aA (a++47::b),aA [47]] H λr aa=>bh pm H aa/\r=.tuple #[aA a,aA b,.bool true]:=by
  refine Call.has c.l5 rfl ?_;simp;refine aq.of (FP c (a++47::b)) ?_;rintro _ _ ⟨rfl,rfl⟩;rw[H6 eA];have e:wr .i64 ((a.length:Int)+1)=((a.length+1:Nat):Int):=by rw[b8];simp
  simp;refine cy.tP d rfl rfl rfl ?_;simp[e];exact⟨(bh.refl d).up _,by rw[mZ (by omega)]⟩
 refine aq.of h ?_;rintro _ _ ⟨f,rfl⟩;simp;exact f
end
theorem Lm{neg:Bool}{n d k:Nat}(a:n<4294967296^k)(b:d<4294967296^k)(c:d≠0):aS (fs neg n d) k:=by
 have h:(if neg then -(n:Int) else(n:Int)).natAbs=n:=by cases neg<;>simp
 unfold fs;rw[<-uV c,u2];refine⟨cV ?_ a,cV (kk _ _) b⟩
 conv=>rhs;rw[<-h]
 exact uT _ _
theorem vC{n:Int}:wr .u64 n=n%18446744073709551616:=by
 rw[oI];simp[IntKind.wrap,IntKind.bits,IntKind.signed]
theorem LR(a:fT X){n:Int}(ez:-9223372036854775808<=n)(b:n<=9223372036854775807):Call X pm F.nH [.int .i64 n] H λr aa=>aa=H/\r=.int .u64 ((n.natAbs:Nat):Int):=by
 refine Call.has a.nH rfl ?_;by_cases a:n<0
 ·have e:wr .u64 (0-wr .u64 n)=((n.natAbs:Nat):Int):=by rw[vC,vC];omega
  have b:wr .u64 (-wr .u64 n)=((n.natAbs:Nat):Int):=by rw[vC,vC];omega
  simp[a,b]
 ·have e:wr .u64 n=((n.natAbs:Nat):Int):=by rw[vC];omega
  simp[a,e]
section
variable[bq]
theorem MD(c:fT X)(k:bR pm H){n:Int}(ez:-9223372036854775808<=n)(l:n<=9223372036854775807):Call X pm F.fW [.int .i64 n] H λr aa=>bh pm H aa/\fA aa r (n:Rat):=by
 refine Call.has c.fW rfl ?_;simp;refine aq.of (LR c ez l) ?_;rintro _ _ ⟨rfl,rfl⟩;simp;refine aq.of (uK c.toc4 k (x:=n.natAbs)) ?_;rintro k _ ⟨d,f⟩;simp;refine aq.of (se c.toc4 d.ok) ?_;rintro m _ ⟨a,g⟩;have o:∃b,k=.pointer b:=by
  rcases f.ptr with⟨h,_⟩ | ⟨b,h⟩
  ·exact⟨_,h⟩
  ·exact⟨_,h⟩
 have p:∃b,m=.pointer b:=by
  rcases g.ptr with⟨h,_⟩ | ⟨b,h⟩
  ·exact⟨_,h⟩
  ·exact⟨_,h⟩
 obtain⟨i,rfl⟩:=o;obtain⟨j,rfl⟩:=p;simp[a.ok.make,a.ok.pick];have e:=(bh.refl a.ok).new (bk.cells [.bool (decide (n<0)),.pointer i,.pointer j] (.t T.RZ));refine⟨d.trans (a.trans e),⟨.inr ⟨_,_,.pointer i,.pointer j,rfl,b4,?_,?_,?_⟩⟩,_,_,_,rfl,b4⟩
 ·exact⟨by simp[Rat.intCast_neg_iff],rfl⟩
 ·rw[Rat.num_intCast];exact(f.u d.ok a).u a.ok e
 ·rw[Rat.den_intCast];exact g.u a.ok e
def cZ(q:Rat):List UInt8:=(if q<0 then[45] else[])++(Lib.decDigits q.num.natAbs++(if q.den=1 then[] else 47::Lib.decDigits q.den))
end
theorem Ar(n:Nat):c' (Lib.decDigits n)=n:=by
 induction n using Nat.strongRecOn with
 | _ n ih=>
   by_cases h:n<10
   ·rw[Lib.decDigits_one h];have:(48+n)%256=48+n:=by omega
    simp[c',ly,this]
   ·rw[Lib.decDigits,dif_neg h,Aq,ih (n/10) (by omega)];have:(48+n%10)%256=48+n%10:=by omega
    simp[c',ly,this];omega
theorem NW{n m:Nat}(h:Lib.decDigits n=Lib.decDigits m):n=m:=by rw[<-Ar n,h,Ar]
theorem wV{n:Nat}:Lib.decDigits n=[49]↔n=1:=by
 have a:Lib.decDigits 1=[49]:=by rw[Lib.decDigits_one (by omega)];rfl
 constructor
 ·intro h;rw[<-a]at h;exact NW h
 ·rintro rfl;exact a
section
variable[bq]
theorem Gf(b:fT X)(i:bR pm H)(l:Tab H){v:Value}{q:Rat}{k:Nat}(h:eY H v q)(c:aS q k)(d:1<=k)(j:k<100000000):
 Call X pm F.hy [v] H λr aa=>bh pm H aa/\r=aA (cZ q):=by
 refine Call.has b.hy rfl ?_;simp;refine aq.of (lk b.toc4 i h) ?_;rintro _ _ ⟨f,_,_,rfl,p,s⟩;simp;refine aq.of (zs b f.ok (l.u i f) p c.1 d j) ?_;rintro _ _ ⟨g,rfl⟩;have p:=uc c.1 d;have p:=uc c.2 d;have e:=f.trans g;have m:=l.u i e;have n:=s.u f.ok g;by_cases a:q<0
 ·simp[a,cg,show 1+(Lib.decDigits q.num.natAbs).length<=4294967296 by omega];refine aq.of (zs b g.ok m n c.2 d j) ?_;rintro _ _ ⟨o,rfl⟩;by_cases k:q.den=1
  ·have h:Lib.decDigits 1=[49]:=wV.2 rfl;simp[k,h,cZ,a];exact e.trans o
  ·have f:Lib.decDigits q.den≠[49]:=λh=>k (wV.1 h);simp[f,cZ,a,k,cg,show 1+(Lib.decDigits q.den).length<=4294967296 by omega,show(Lib.decDigits q.num.natAbs).length+1+((Lib.decDigits q.den).length+1)<=4294967296 by omega];exact e.trans o
 ·simp[a];refine aq.of (zs b g.ok m n c.2 d j) ?_;rintro _ _ ⟨o,rfl⟩;by_cases k:q.den=1
  ·have h:Lib.decDigits 1=[49]:=wV.2 rfl;simp[k,h,cZ,a];exact e.trans o
  ·have b:Lib.decDigits q.den≠[49]:=λh=>k (wV.1 h);simp[b,cZ,a,k,cg,show 1+(Lib.decDigits q.den).length<=4294967296 by omega,show(Lib.decDigits q.num.natAbs).length+((Lib.decDigits q.den).length+1)<=4294967296 by omega];exact e.trans o
def lD(l:List UInt8)(neg:Bool)(a b:List UInt8):Option Rat:=
 if gm a=true/\gm b=true/\c' b≠0/\cZ (fs neg (c' a) (c' b))=l then some (fs neg (c' a) (c' b)) else none
def gn(l:List UInt8):Bool×List UInt8:=if l.head? = some 45 then(true,l.tail) else(false,l)
def iT(t:List UInt8):List UInt8×List UInt8:=if 47∈t then(t.takeWhile (· != 47),(t.dropWhile (· != 47)).tail) else(t,[49])
def gH(l:List UInt8):Option Rat:=lD l (gn l).1 (iT (gn l).2).1 (iT (gn l).2).2
def oW(pm:Perm)(H:ad)(o:Option Rat):b5:=λx b aa=>(x=dS.normal∨x=dS.ret)/\∃a,hU b aa [.slot 2,.slot 3]=some a/\(bh pm H aa/\(o=none/\f' a=.tuple #[.pointer none,.bool false]∨∃q p,o=some q/\f' a=.tuple #[p,.bool true]/\fA aa p q))
end
theorem xk{l:List UInt8}(h:gm l=true):c' l<4294967296^l.length/\l.length<=2000/\1<=l.length:=by
 unfold gm at h;simp[cg]at h;refine⟨eC (wT (by rw[eD];exact h.2.2.2)) (Kg _),h.2.1,?_⟩
 cases l with
 | nil=>exact absurd rfl h.1
 | cons=>simp
section
variable[bq]
theorem HA(c:fT X){aj:ad}(d:bh pm aj H)(s:Tab H){l a b:List UInt8}{neg:Bool}{L:bb}(i:aK 0 L=some (aA l))(t:aK 5 L=some (.bool neg))(u:aK 6 L=some (aA a))(j:aK 7 L=some (aA b)):
 wp X pm (.code qJ) L H [] (oW pm aj (lD l neg a b)):=by
 have k:=d.ok;simp[u,-lR];refine aq.of (zc c k (l:=a)) ?_;rintro _ _ ⟨e,v⟩
 rcases v with⟨g1,rfl⟩ | ⟨g1,c7,rfl,OO⟩
 ·simp[j,-lR];refine aq.of (zc c e.ok (l:=b)) ?_;rintro _ _ ⟨a,f⟩
  rcases f with⟨g2,rfl⟩ | ⟨g2,bl,rfl,AZ⟩<;>
  ·simp[-lR];refine aq.not ?_;simp[oW,lD,g1,-lR];exact d.trans (e.trans a)
 ·simp[j,-lR];refine aq.of (zc c e.ok (l:=b)) ?_;rintro _ _ ⟨g,w⟩
  rcases w with⟨g2,rfl⟩ | ⟨g2,bl,rfl,AZ⟩
  ·simp[-lR];refine aq.not ?_;simp[oW,lD,g2,-lR];exact d.trans (e.trans g)
  ·have m:=e.trans g;have x:=OO.u e.ok g;obtain⟨j,_,_⟩:=xk g1;obtain⟨e,_,_⟩:=xk g2;have n:=kg j (e9 a.length b.length);have o:=kg e (Nat.le_add_left b.length a.length);simp[-lR];refine aq.of (pW c.toc4 AZ e (by omega)) ?_;rintro _ _ ⟨rfl,rfl⟩;by_cases f:c' b=0
   ·simp[f,oW,lD,-lR];exact d.trans m
   ·simp[f,t];refine aq.of (sZ c.toc4 g.ok (neg:=neg) x AZ n o f) ?_;rintro _ _ ⟨h,p⟩;have q:=m.trans h;simp;refine aq.of (Gf c h.ok (s.u k q) p.1 (Lm n o f) (by omega) (by omega)) ?_;rintro _ _ ⟨r,rfl⟩;have e:=q.trans r;by_cases c:cZ (fs neg (c' a) (c' b))=l
    ·simp[i,c,oW];refine⟨d.trans e,_,?_,p.u h.ok r⟩;simp[lD,g1,g2,f,c]
    ·simp[i,c,oW,lD];exact d.trans e
theorem Mo(c:fT X)(f:bR pm H)(i:Tab H){l:List UInt8}(g':l.length<1000000):
 Call X pm F.hQ [aA l] H λr aa=>bh pm H aa/\(gH l=none/\r=.tuple #[.pointer none,.bool false]∨∃q p,gH l=some q/\r=.tuple #[p,.bool true]/\fA aa p q):=by
 refine Call.has c.hQ rfl ?_;show wp X pm (.code hQ.body) _ H [] (oW pm H (gH l));have j:∀{L:bb},(gn l).2.length<=l.length->aK 0 L=some (aA l)->aK 4 L=some (aA (gn l).2)->aK 5 L=some (.bool (gn l).1)->wp X pm (.code sv) L H [] (oW pm H (gH l)):=by
  intro L k m g h;unfold gH;generalize q:gn l=o at*
  obtain⟨_,t⟩:=o;simp only at g h k;simp only;by_cases e:47∈t
  ·obtain⟨a,b,rfl,l⟩:=List.eq_append_cons_of_mem e;have p:iT (a++47::b)=(a,b):=by
    have b:∀x∈a,(x != (47:UInt8))=true:=λx n=>by
     simp;rintro rfl;exact l n
    unfold iT;rw[aT e,List.takeWhile_append_of_pos b,List.dropWhile_append_of_pos b];simp
   rw[p];simp[g,-qJ];refine aq.of (L9 c f (a:=a) (b:=b) l (by simp at k;omega)) ?_;rintro _ _ ⟨n,rfl⟩;simp[-qJ];refine HA c n (i.u f n) ?_ ?_ ?_ ?_<;>simp[m,h]
  ·have a:iT t=(t,[49]):=by unfold iT;rw[aC e]
   rw[a];simp[g,-qJ];refine aq.of (L7 c (l:=t) e) ?_;rintro _ _ ⟨rfl,rfl⟩;simp[-qJ];refine HA c (.refl f) i ?_ ?_ ?_ ?_<;>simp[m,h]
 simp[-sv];by_cases d:l.head? = some 45
 ·have b:l=45::l.tail:=by
   cases l with
   | nil=>cases d
   | cons _ _=>simp at d;subst d;rfl
  have e:gn l=(true,l.tail):=by unfold gn;rw[aT d]
  have a:=L5 (X:=X) (pm:=pm) (H:=H) c 45 l.tail;rw[<-b]at a;refine aq.of a ?_;rintro _ _ ⟨rfl,rfl⟩;simp[-sv];refine j ?_ ?_ ?_ ?_<;>simp[e]
 ·have a:gn l=(false,l):=by unfold gn;rw[aC d]
  refine aq.of (L4 c 45 d) ?_;rintro _ _ ⟨rfl,rfl⟩;simp[-sv];refine j ?_ ?_ ?_ ?_<;>simp[a]
theorem ML(a:c4 X)(f:bR pm H){v:Value}{q:Rat}{k:Nat}(h:eY H v q)(d:aS q k)(g:k<67108864):
 Call X pm F.lT [v] H λr aa=>bh pm H aa/\r=.bool (decide (q.den=1)):=by
 refine Call.has a.lT rfl ?_;simp;refine aq.of (lk a f h) ?_;rintro _ _ ⟨b,_,_,rfl,_,f⟩;simp;refine aq.of (se a b.ok) ?_;rintro _ _ ⟨e,c⟩;simp;refine aq.of (zU a (f.u b.ok e) c d.2 (cV (m' q.den_nz) d.2) (by omega)) ?_;rintro _ _ ⟨rfl,rfl⟩;simp;refine⟨b.trans e,?_⟩;unfold e1;have:=q.den_nz;by_cases a:q.den=1
 ·simp[a]
 ·have c:q.den≠0:=this;simp[a,c]
omit [bq] in
theorem Ov(q:Rat):fs (decide (q<0)) (q.num.natAbs/q.den+(if q<0/\q.num.natAbs%q.den≠0 then 1 else 0)) 1=(q.floor:Rat):=by
 rw[r6];have b:(0:Int)<q.den:=Int.natCast_pos.2 q.den_pos;have e:hA (decide (q<0)) (q.num.natAbs/q.den+(if q<0/\q.num.natAbs%q.den≠0 then 1 else 0))=q.floor:=by
  conv=>rhs;rw[Rat.floor_def,kV q]
  unfold hA;by_cases h:q<0
  ·simp only[h,decide_true,if_true,true_and];rw[Int.neg_ediv];by_cases a:q.num.natAbs%q.den=0
   ·have c:(q.den:Int)∣(q.num.natAbs:Int):=Int.natCast_dvd_natCast.2 (Nat.dvd_of_mod_eq_zero a);simp[a,c]
   ·have c:¬(q.den:Int)∣(q.num.natAbs:Int):=λh=>a (Nat.mod_eq_zero_of_dvd (Int.natCast_dvd_natCast.1 h));rw[aT a,aC c,Int.sign_eq_one_of_pos b];simp only[Int.natCast_add,Int.natCast_ediv];omega
  ·simp[h]
 rw[e];exact Rat.mkRat_one _
theorem Ml(a:c4 X)(n:bR pm H){v:Value}{q:Rat}{k:Nat}(h:eY H v q)(e:aS q k)(p:k<67108864):
 Call X pm F.mU [v] H λr aa=>bh pm H aa/\fA aa r (q.floor:Rat):=by
 refine Call.has a.mU rfl ?_;have f:=Ov q;have g:q.num.natAbs/q.den<4294967296^k:=cV (kk _ _) e.1;have l:1<4294967296^(k+1):=Nat.one_lt_pow (by omega) (by omega);simp[-kX];refine aq.of (lk a n h) ?_;rintro _ _ ⟨m,_,_,rfl,n,p⟩;simp[-kX];refine aq.of (Aw a m.ok n p e.1 e.2 (by omega) q.den_nz) ?_;rintro _ o ⟨c,_,_,rfl,i,s⟩;have t:=m.trans c
 have j:∀{d:ad} {L:bb} {p:Value} {n:Nat},bh pm o d->bV d p n->n<4294967296^(k+1)->fs (decide (q<0)) n 1=(q.floor:Rat)->aK 3 L=some (.bool (decide (q<0)))->aK 6 L=some p->
  wp X pm (.code kX) L d [] λx k aa=>(x=.normal∨x=.ret)/\∃h,hU k aa [.slot 2]=some h/\(bh pm H aa/\fA aa (f' h) (q.floor:Rat)):=by
  intro d L p n h m n p k r;simp[k,r];refine aq.of (se a h.ok) ?_;rintro _ _ ⟨k,r⟩;simp;refine aq.of (sZ a k.ok (neg:=decide (q<0)) (m.u h.ok k) r n l (by omega)) ?_;rintro _ _ ⟨m,n⟩;simp;rw[<-p];exact⟨(t.trans h).trans (k.trans m),n⟩
 by_cases b:q<0
 ·simp[b,-kX];refine aq.of (pW a s (cV (Nat.mod_le _ _) e.1) (by omega)) ?_;rintro _ o ⟨rfl,rfl⟩;by_cases e:q.num.natAbs%q.den=0
  ·simp[e,-kX];exact j (bh.refl c.ok) i (kg g (by omega)) (by simpa [b,e]using f) (by simp[b]) (by simp)
  ·simp[e,-kX];refine aq.of (se a c.ok) ?_;rintro _ d ⟨d,h⟩;simp[-kX];refine aq.of (zv a d.ok (i.u c.ok d) h (kg g (oo k)) l (by omega)) ?_;rintro _ _ ⟨a,h⟩;simp[-kX];refine j (d.trans a) h ?_ (by simpa [b,e]using f) (by simp[b]) (by simp);rw[dH];omega
 ·simp[b,-kX];refine aq.not ?_;simp[-kX];exact j (bh.refl c.ok) i (kg g (by omega)) (by simpa [b]using f) (by simp[b]) (by simp)
end
end Go.Dam.C
namespace Go.Dam.C
open Go Go.Dam Go.RowKit
instance:bq:=⟨λ_=>True⟩
def s4:Array Value:=(Lib.pow10Tab.map λz=>Value.int .u64 z).toArray
def nF(w:World)(N:Nat->Prop)(b o:Nat)(l:List Value):Prop:=N b/\∃c e a,w.heap[b]? = some (.cells c e a)/\o+l.length<=c.size/\∀i v,l[i]? = some v->c[o+i]? = some v
def ru(w:World)(N:Nat->Prop)(s:Value)(al:List Nat):Prop:=
 c1 al/\((s=.slice none 0 0/\al=[])∨(∃a,s=.slice (some a) 0 0/\al=[])∨∃c o a,s=.slice (some ⟨c,o,none⟩) al.length a/\al.length<=a/\nF w N c o (bU al))
def p2(w:World)(N:Nat->Prop)(v:Value)(n:Nat):Prop:=
 (v=.pointer none/\n=0)∨∃b o s a,v=.pointer (some ⟨b,o,none⟩)/\nF w N b o [s]/\ru w N s a/\strip a=a/\ay a=n
def o5(w:World)(N:Nat->Prop)(v:Value)(q:Rat):Prop:=
 (v=.pointer none/\q=0)∨∃b o p d,v=.pointer (some ⟨b,o,none⟩)/\nF w N b o [.bool (decide (q<0)),p,d]/\p2 w N p q.num.natAbs/\p2 w N d q.den
section
variable{w ao:World}{N lj:Nat->Prop}
theorem nF.mono{b o:Nat}{l:List Value}(h:nF w N b o l)(g:∀c,N c->c<w.heap.size->lj c/\ao.heap[c]? = w.heap[c]?):nF ao lj b o l:=by
 obtain⟨b,c,e,d,a,f⟩:=h;obtain⟨i,j⟩:=g _ b (e'.1 a).1;exact⟨i,c,e,d,j.trans a,f⟩
theorem ru.mono{s:Value}{al:List Nat}(h:ru w N s al)(g:∀c,N c->c<w.heap.size->lj c/\ao.heap[c]? = w.heap[c]?):ru ao lj s al:=
 ⟨h.1,h.2.imp id (Or.imp id λ⟨c,o,a,b,d,e⟩=>⟨c,o,a,b,d,e.mono g⟩)⟩
theorem p2.mono{v:Value}{n:Nat}(h:p2 w N v n)(g:∀c,N c->c<w.heap.size->lj c/\ao.heap[c]? = w.heap[c]?):p2 ao lj v n:=
 h.imp id λ⟨b,o,s,a,c,d,e,f⟩=>⟨b,o,s,a,c,d.mono g,e.mono g,f⟩
theorem o5.mono{v:Value}{q:Rat}(h:o5 w N v q)(g:∀c,N c->c<w.heap.size->lj c/\ao.heap[c]? = w.heap[c]?):o5 ao lj v q:=
 h.imp id λ⟨b,o,p,d,a,e,f,i⟩=>⟨b,o,p,d,a,e.mono g,f.mono g,i.mono g⟩
end
def hZ:b0 where
 rel:=λw N b o=>o=.nat 0/\N b/\∃e a,w.heap[b]? = some (.cells s4 e a)
 qV:=λ⟨c,b,e,a,d⟩ h=>⟨c,(h _ b).1,e,a,((h _ b).2).trans d⟩
def fh:b0 where
 rel:=λw N b o=>match o with
  | .nat n=>n=0/\N b/\∃e a,w.heap[b]? = some (.cells s4 e a)
  | .gY q=>o5 w N (.pointer (some ⟨b,0,none⟩)) q
 qV:=λ{w _ N _ b o} h g=>by
  cases o with
  | nat _=>obtain⟨b,a,e,c,d⟩:=h;exact⟨b,(g _ a).1,e,c,((g _ a).2).trans d⟩
  | gY _=>exact o5.mono h λc a _=>g c a
structure In(O:b0)(N:Nat->Prop)(W:World)(γ:aL)(H:ad):Prop where
 rel:Rel O 0 γ H W
 ro:∀b,¬ev (H.get b)
 uk:∃L,γ 1=some L/\L.aW=1/\L.d=0
 dD:H.get 1=some (.cr (.nat 0))
 n:∀b L,γ b=some L->N L.aW
 zR:∃c e OC,W.heap[1]? = some (.cells c e OC)
def Ext(H aa:ad):Prop:=∀b y,H.get b=some y->aa.get b=some y
theorem Ext.refl(H:ad):Ext H H:=λ_ _ h=>h
theorem Ext.trans{H aa a:ad}(h:Ext H aa)(g:Ext aa a):Ext H a:=λb y e=>g b y (h b y e)
theorem cE.le{H aa:ad}{v:Value}{al:List Nat}(h:cE H v al)(g':Ext H aa):cE aa v al:=by
 refine⟨h.1,h.2.imp id ?_⟩;rintro⟨c,a,b,y,d,e,f,g⟩;exact⟨c,a,b,y,d,e,g' _ _ f,g⟩
theorem bV.le{H aa:ad}{v:Value}{n:Nat}(h:bV H v n)(g':Ext H aa):bV aa v n:=⟨h.ex.imp λ_ q=>⟨q.1.imp id (by
 rintro⟨b,x,s,a,c,d,e⟩;exact⟨b,x,s,a,g' _ _ c,d,e.le g'⟩),q.2⟩⟩
theorem eY.le{H aa:ad}{v:Value}{q:Rat}(h:eY H v q)(g':Ext H aa):eY aa v q:=by
 refine⟨h.ex.imp id ?_⟩;rintro⟨b,x,a,c,d,e,f,g,i⟩;exact⟨b,x,a,c,d,g' _ _ e,f,g.le g',i.le g'⟩
section
variable{O:b0}{N:Nat->Prop}{W:World}{γ:aL}{H:ad}
def BZ:Dam.Loc:=⟨1,0,0,0⟩
def mi:aL:=λb=>if b=1 then some BZ else none
def vY:ad:=⟨(bG.ag:bG bk).set (.cr (.nat 0)) 1,2⟩
theorem kz{b:Nat}{L:Dam.Loc}(h:mi b=some L):b=1/\L=BZ:=by
 unfold mi at h;split at h
 ·simp only[ax]at h;exact⟨by assumption,h.symm⟩
 ·cases h
theorem qn(b:Nat):vY.get b=if b=1 then some (.cr (.nat 0)) else none:=by
 show((bG.ag:bG bk).set (.cr (.nat 0)) 1).get b=_;rw[bG.jw];by_cases h:b=1
 ·rw[aT h,aT h]
 ·rw[aC h,aC h];rfl
theorem Sj(c:∀N:Nat->Prop,N 1->O.rel W N 1 (.nat 0))(d:1<W.heap.size):Rel O 0 mi vY W:=by
 refine⟨λb L h=>?_,λb L h=>?_,λb h=>?_,λb _ L _ h _ r _ _=>?_,λb L h r=>?_,Nat.zero_le _⟩
 ·obtain⟨rfl,rfl⟩:=kz h;refine⟨.cr (.nat 0),by rw[qn,aT rfl],?_⟩;have a:fg mi vY W 1:=⟨d,λb L h r=>by
   obtain⟨rfl,_⟩:=kz h;rw[qn,aT rfl]at r;exact r.elim⟩
  exact⟨a,rfl,c _ a⟩
 ·obtain⟨rfl,_⟩:=kz h;show 1<2;omega
 ·rw[qn,aC];have:2<=b:=h;omega
 ·obtain⟨rfl,_⟩:=kz h;rw[qn,aT rfl]at r;exact r.elim
 ·obtain⟨rfl,_⟩:=kz h;rw[qn,aT rfl]at r;exact r.elim
theorem In.start(d:∀M:Nat->Prop,M 1->O.rel W M 1 (.nat 0)){c:Array Value}{e:TypeId}{a:Nat×Nat}(b:W.heap[1]? = some (.cells c e a))(f:N 1):In O N W mi vY:=
 ⟨Sj d (e'.1 b).1,λg h=>by rw[qn]at h;split at h<;>exact h.elim,⟨BZ,rfl,rfl,rfl⟩,by rw[qn,aT rfl],λg _ h=>by obtain⟨_,rfl⟩:=kz h;exact f,c,e,a,b⟩
theorem In.add(h:In O N W γ H){l aN:List Value}{b o:Nat}(i:nF W N b o aN)(n:br γ l aN):
 In O N W (γ.set H.next ⟨b,o,0,0⟩) (H.new (.ro l))/\γ.le (γ.set H.next ⟨b,o,0,0⟩)/\Ext H (H.new (.ro l)):=by
 obtain⟨s,d,t,u,i,v,g⟩:=i;have j:=h.rel.IK ⟨b,o,0,0⟩;have w:H.get H.next=none:=h.rel.new _ (bg _);have f:∀b,(H.new (.ro l)).get b=if b=H.next then some (.ro l) else H.get b:=λb=>ad.jZ H b _
 have k:∀b,¬ev ((H.new (.ro l)).get b):=λb=>by
  rw[f];split
  ·exact λh=>h.elim
  ·exact h.ro b
 have p:∀d,d<W.heap.size->fg (γ.set H.next ⟨b,o,0,0⟩) (H.new (.ro l)) W d:=λd g=>⟨g,λb L _ r=>(k b r).elim⟩;obtain⟨x,q,y,z⟩:=h.uk;have m:(1:Nat)≠H.next:=λe=>by have:=h.rel.lt 1 _ q;omega
 refine⟨⟨⟨λc L a=>?_,λc L a=>?_,λc a=>?_,λb _ _ _ _ _ r _ _=>(k b r).elim,λb _ _ r=>(k b r).elim,Nat.zero_le _⟩,k,⟨x,j _ _ q,y,z⟩,?_,λc L a=>?_,h.zR⟩,j,λb _ e=>?_⟩
 ·by_cases e:c=H.next
  ·subst e;rw[aL.fa]at a;cases a;refine⟨.ro l,by rw[f,aT rfl],p _ (e'.1 i).1,d,t,u,i,rfl,by rw[n.length];exact v,λi _ e=>?_⟩;obtain⟨b,h,r⟩:=n.get e;exact⟨b,g i b h,r.mono j⟩
  ·rw[aL.fZ _ _ e]at a;obtain⟨x,m,b⟩:=h.rel.aW c L a;exact⟨x,by rw[f,aC e];exact m,b.mono j (λd g=>⟨p d g.1,rfl⟩) (λ_=>rfl)⟩
 ·show c<H.next+1;by_cases e:c=H.next
  ·omega
  ·rw[aL.fZ _ _ e]at a;have:=h.rel.lt c L a;omega
 ·have a:H.next+1<=c:=a;rw[f,aC (by omega)];exact h.rel.new c (by omega)
 ·rw[f,aC m];exact h.dD
 ·by_cases e:c=H.next
  ·subst e;rw[aL.fa]at a;cases a;exact s
  ·rw[aL.fZ _ _ e]at a;exact h.n c L a
 ·rw[f,aC]
  ·exact e
  ·rintro rfl;rw[w]at e;cases e
theorem TK(al:List Nat):br γ (bU al) (bU al):=br.oc rfl λi _ _ a b=>by
 rw[a]at b;cases b;simp only[bU,iw]at a
 cases e:al[i]? with
 | none=>rw[e]at a;cases a
 | some _=>rw[e]at a;simp only[gL,ax]at a;subst a;exact .int _ _
theorem In.N1(h:In O N W γ H){s:Value}{al:List Nat}(g:ru W N s al):∃a aa d,In O N W a aa/\γ.le a/\Ext H aa/\aD a d s/\cE aa d al:=by
 obtain⟨e,⟨rfl,rfl⟩ | ⟨_,rfl,rfl⟩ | ⟨c,o,cap,rfl,f,i⟩⟩:=g
 ·exact⟨γ,H,_,h,.refl _,.refl _,.pM,cE.nil⟩
 ·obtain⟨L,d,g,_⟩:=h.uk;have a:=h.n 1 L d;rw[g]at a;obtain⟨c,d,g,j⟩:=h.zR;obtain⟨k,m,n⟩:=h.add (l:=[]) (aN:=[]) (b:=1) (o:=0) ⟨a,c,d,g,j,by simp,by simp⟩ .nil;exact⟨_,_,.slice (some ⟨H.next,0,none⟩) 0 0,k,m,n,.ks (aL.fa _ _ _),e,.inr ⟨H.next,0,0,_,[],rfl,b4,.inr rfl,rfl,by simp,by simp,trivial⟩⟩
 ·obtain⟨a,d,g⟩:=h.add (l:=bU al) i (TK al);refine⟨_,_,.slice (some ⟨H.next,0,none⟩) al.length cap,a,d,g,?_,e,.inr ⟨H.next,0,cap,_,bU al,rfl,b4,.inr rfl,by rw[List.drop_zero];exact mZ (by simp[bU]),by simp[bU],f,trivial⟩⟩;have:=aD.fb (γ:=γ.set H.next ⟨c,o,0,0⟩) (b:=H.next) (off:=0) (n:=al.length) (cap:=cap) (cG:=cap) (L:=⟨c,o,0,0⟩) (aL.fa _ _ _) (bg _) f (.inl rfl);simpa using this
theorem Cq{c o:Nat}:aD (γ.set H.next ⟨c,o,0,0⟩) (.pointer (some ⟨H.next,0,none⟩)) (.pointer (some ⟨c,o,none⟩)):=by
 have:=aD.ptr (γ:=γ.set H.next ⟨c,o,0,0⟩) (b:=H.next) (off:=0) (L:=⟨c,o,0,0⟩) (aL.fa _ _ _);simpa using this
theorem In.nat(h:In O N W γ H){v:Value}{n:Nat}(c:p2 W N v n):∃a aa p,In O N W a aa/\γ.le a/\Ext H aa/\aD a p v/\bV aa p n:=by
 obtain⟨rfl,rfl⟩ | ⟨_,_,_,d,rfl,e,f,g,i⟩:=c
 ·exact⟨γ,H,_,h,.refl _,.refl _,.uQ,⟨[],.inl ⟨rfl,rfl⟩,rfl,rfl⟩⟩
 ·obtain⟨_,c,a,j,k,m,n,o⟩:=h.N1 f;obtain⟨f,p,b⟩:=j.add (l:=[a]) e (.cons n .nil);exact⟨_,_,_,f,k.trans p,m.trans b,Cq,⟨d,.inr ⟨c.next,_,a,rfl,b4,⟨rfl,rfl⟩,o.le b⟩,g,i⟩⟩
theorem In.gY(h:In O N W γ H){v:Value}{q:Rat}(a:o5 W N v q):∃b aa p,In O N W b aa/\γ.le b/\Ext H aa/\aD b p v/\eY aa p q:=by
 obtain⟨rfl,rfl⟩ | ⟨_,_,p,_,rfl,g,d,a⟩:=a
 ·exact⟨γ,H,_,h,.refl _,.refl _,.uQ,⟨.inl ⟨rfl,rfl⟩⟩⟩
 ·obtain⟨_,_,b,i,j,k,m,n⟩:=h.nat d;obtain⟨_,o,d,p,e,f,r,s⟩:=i.nat a;obtain⟨a,i,c⟩:=p.add (l:=[.bool (decide (q<0)),b,d]) g (.cons (.bool _) (.cons (m.mono e) (.cons r .nil)));exact⟨_,_,_,a,(j.trans e).trans i,(k.trans f).trans c,Cq,⟨.inr ⟨o.next,_,b,d,rfl,b4,⟨rfl,rfl⟩,n.le (f.trans c),s.le c⟩⟩⟩
end
section
variable{O:b0}{base:Nat}{N:Nat->Prop}{w:World}{γ:aL}{H:ad}
theorem Sp(d:Rel O base γ H w)(e:∀b L,γ b=some L->N L.aW){b:Nat}{L:Dam.Loc}{x:bk}{row:List Value}(c:γ b=some L)(f:H.get b=some x)(g:rowOf x=some row){off:Nat}{l aN:List Value}
 (g':(row.drop off).take l.length=l) (b:off+l.length<=row.length) (b:∀(i:Nat) (v aH:Value),l[i]? = some v->aD γ v aH->aN[i]? = some aH) (h:aN.length=l.length):nF w N L.aW (L.d+off) aN:=by
 obtain⟨h,j,k,m,_,n⟩:=d.row c f g;refine⟨e _ _ c,h,j,k,m,by omega,λi v a=>?_⟩;have c:=(je.1 a).1;have c:row[off+i]? = some (l[i]'(by omega)):=by
  have:=congrArg (·[i]?) g';simp only[kZ (show i<l.length by omega),ki]at this;rw[this,eu]
 obtain⟨aH,o,d⟩:=n _ _ c;have:=b i _ aH (eu (by omega)) d;rw[this]at a;cases a;rw[l1];exact o
theorem cE.out(f:Rel O base γ H w)(g:∀b L,γ b=some L->N L.aW){s c:Value}{al:List Nat}(h:cE H s al)(d:aD γ s c):ru w N c al:=by
 obtain⟨a,⟨rfl,rfl⟩ | ⟨_,i,_,_,_,rfl,j,k,m,_,_,_⟩⟩:=h
 ·cases d;exact⟨a,.inl ⟨rfl,rfl⟩⟩
 ·obtain⟨L,h,_,_,⟨n,rfl,_,_⟩ | ⟨o,_,p,rfl⟩⟩:=d.l8
  ·have q:(bU al).length=al.length:=by simp[bU]
   refine⟨a,.inr (.inr ⟨L.aW,L.d+i,n,rfl,by omega,Sp f g h j k.row (l:=bU al) (by rw[q];exact m) (by omega) (λr _ _ e s=>?_) rfl⟩)⟩;rw[e];simp only[bU,iw]at e
   cases b:al[r]? with
   | none=>rw[b]at e;cases e
   | some _=>rw[b]at e;simp only[gL,ax]at e;subst e;rw[s.U]
  ·exact⟨a,.inr (.inl ⟨p,rfl,Cy o⟩)⟩
theorem bV.LL(c:Rel O base γ H w)(d:∀b L,γ b=some L->N L.aW){v aH:Value}{n:Nat}(h:bV H v n)(e:aD γ v aH):p2 w N aH n:=by
 obtain⟨g,⟨rfl,rfl⟩ | ⟨b,_,s,rfl,j,k,l⟩,m,f⟩:=h.ex
 ·cases e;exact .inl ⟨rfl,f.symm⟩
 ·obtain⟨L,b,_,rfl⟩:=e.jA;obtain⟨h,n,o,p,q,e⟩:=c.row b j k.1;obtain⟨r,t,u⟩:=e 0 s rfl;refine .inr ⟨L.aW,L.d+0,r,g,rfl,⟨d _ _ b,h,n,o,p,by simpa using q,λi _ a=>?_⟩,l.out c d u,m,f⟩
  cases i with
  | zero=>simp at a;subst a;exact t
  | succ i=>simp at a
theorem fA.out(d:Rel O base γ H w)(e:∀b L,γ b=some L->N L.aW){v aH:Value}{q:Rat}(h:fA H v q)(s:aD γ v aH):∃c L b,aH=.pointer (some ⟨c,0,none⟩)/\γ b=some L/\L.aW=c/\ev (H.get b)/\o5 w N aH q:=by
 obtain⟨h,b,_,_,rfl,f⟩:=h;obtain⟨g,_⟩ | ⟨b,_,_,_,g,m,t,u,v⟩:=h.ex
 ·cases g
 cases g;rw[f]at m;cases m;have n:=t.1;simp only[rowOf,ax]at n;subst n;obtain⟨L,i,_,rfl⟩:=s.jA;obtain⟨_,o,w⟩:=d.aW b L i;rw[f]at o;cases o;obtain⟨c,x,y,z,_,⟨_,_,A,j⟩,_,_,k⟩:=w;obtain⟨_,l,B⟩:=k 0 _ rfl;obtain⟨C,p,D⟩:=k 1 _ rfl;obtain⟨E,q,F⟩:=k 2 _ rfl;rw[B.jP]at l;simp only[A,Nat.zero_add]at l p q|-;refine⟨L.aW,L,b,rfl,i,rfl,by rw[f];trivial,.inr ⟨L.aW,0,C,E,rfl,⟨e _ _ i,c,x,y,z,by have j:c.size=3:=j;simp[j],λr _ a=>?_⟩,u.LL d e D,v.LL d e F⟩⟩;rw[Nat.zero_add]
 rcases r with _ | _ | _ | r
 ·simp at a;subst a;exact l
 ·simp at a;subst a;exact p
 ·simp at a;subst a;exact q
 ·simp at a
end
end Go.Dam.C
namespace Go.Dam.C
open Go Go.Dam
theorem S8{p q:Rat}{k:Nat}(a:aS p k)(b:aS q k):aS (p+q) (2*k+1):=by
 have e:p+q=mkRat (p.num*q.den+q.num*p.den) (p.den*q.den):=Rat.add_def' p q;have c:p.den*q.den≠0:=pA p.den_nz q.den_nz;rw[e,<-uV c,u2];refine⟨cV (uT _ _) ?_,cV (kk _ _) (kg (jz a.2 b.2) (by omega))⟩;refine cV (Int.natAbs_add_le _ _) ?_;rw[oy,oy];exact xV (jz a.1 b.2) (jz b.1 a.2)
theorem S9{p q:Rat}{k:Nat}(a:aS p k)(b:aS q k):aS (p*q) (2*k):=by
 have e:p*q=mkRat (p.num*q.num) (p.den*q.den):=Rat.mul_def' p q;have c:p.den*q.den≠0:=pA p.den_nz q.den_nz;rw[e,<-uV c,u2];refine⟨cV (uT _ _) ?_,cV (kk _ _) (jz a.2 b.2)⟩;rw[oy];exact jz a.1 b.1
theorem Ll{q:Rat}{k:Nat}(a:aS q k)(ez:q≠0):aS (1/q) k:=by
 rw[H9 ez];simp only[Rat.num_ofNat,Rat.den_ofNat];have b:q.num.natAbs≠0:=λ_=>ez (Rat.num_eq_zero.1 (by omega));refine Lm ?_ ?_ ?_
 ·simpa using a.2
 ·simpa using a.1
 ·simpa using b
theorem en{q:Rat}{k j:Nat}(a:aS q k)(h:k<=j):aS q j:=⟨kg a.1 h,kg a.2 h⟩
theorem s3{p q:Rat}{k:Nat}(a:aS p k)(b:aS q k):aS (p-q) (2*k+1):=by rw[Rat.sub_eq_add_neg];exact S8 a (oF b)
theorem yG{p q:Rat}{k:Nat}(a:aS p k)(b:aS q k)(ez:q≠0):aS (p/q) (2*k):=by
 have:p/q=p*(1/q):=by grind
 rw[this];exact S9 a (Ll b ez)
theorem s0{p q:Rat}{a b:Nat}(c:aS p a)(d:aS q b):aS (p+q) (a+b+1):=by
 have f:p+q=mkRat (p.num*q.den+q.num*p.den) (p.den*q.den):=Rat.add_def' p q;have g:p.den*q.den≠0:=pA p.den_nz q.den_nz;have a:=sI c.1 d.2;have b:=sI c.2 d.1;have e:=sI c.2 d.2;rw[<-fH]at a b e;rw[f,<-uV g,u2];refine⟨cV (uT _ _) ?_,cV (kk _ _) (kg e (by omega))⟩;refine cV (Int.natAbs_add_le _ _) ?_;rw[oy,oy];refine xV a ?_;rw[dW];exact b
theorem kt{p q:Rat}{a b:Nat}(c:aS p a)(d:aS q b):aS (p*q) (a+b):=by
 have e:p*q=mkRat (p.num*q.num) (p.den*q.den):=Rat.mul_def' p q;have a:p.den*q.den≠0:=pA p.den_nz q.den_nz;rw[e,<-uV a,u2,aS,fH];refine⟨cV (uT _ _) ?_,cV (kk _ _) (sI c.2 d.2)⟩;rw[oy];exact sI c.1 d.1
theorem S'{p q:Rat}{a b:Nat}(c:aS p a)(d:aS q b):aS (p-q) (a+b+1):=by rw[Rat.sub_eq_add_neg];exact s0 c (oF d)
theorem pR{k:Nat}(a:1<=k):aS 0 k:=by
 have:4294967296^1<=4294967296^k:=fX (by decide) a;exact⟨by show 0<_;omega,by show 1<_;omega⟩
def fo:Nat:=60000000
def r3(n k:Nat):Bool:=Nat.blt n.log2 (32*k)
theorem IW{n k:Nat}(h:r3 n k=true)(_:1<=k):n<4294967296^k:=by
 unfold r3 at h;rw[fG,df]at h;rw[show(4294967296:Nat)=2^32 from rfl,<-mY];by_cases a:n=0
 ·subst a;exact qN (by decide)
 ·exact(Nat.log2_lt a).1 h
theorem IP{n k:Nat}(h:n<4294967296^k)(b:1<=k):r3 n k=true:=by
 unfold r3;rw[fG,df];by_cases a:n=0
 ·subst a;simp;omega
 ·rw[Nat.log2_lt a,mY];exact h
def bw(q:Rat):Bool:=r3 q.num.natAbs fo&&r3 q.den fo
theorem bw.aS{q:Rat}(h:bw q=true):aS q fo:=by
 unfold bw at h;rw[b3]at h;exact⟨IW h.1 (by decide),IW h.2 (by decide)⟩
theorem aS.bw{q:Rat}{k:Nat}(h:aS q k)(a:k<=fo):bw q=true:=by
 have h:=en h a;unfold C.bw;rw[b3];exact⟨IP h.1 (by decide),IP h.2 (by decide)⟩
end Go.Dam.C
namespace Go.Dam.C
open Go Go.Dam
def n1(H:ad)(v:Value):Option Rat:=match v with
 | .pointer none=>some 0
 | .pointer (some ⟨b,0,none⟩)=>(match H.get b with
   | some (.cr (.gY q))=>some q
   | _=>none)
 | _=>none
inductive fl where
 | cB (q:Rat)
 | val (v:Value)
 | no
 | yes (q:Rat)
def fl.out(H:ad):fl->Value×ad
 | .cB q=>(.pointer (some ⟨H.next,0,none⟩),H.new (.cr (.gY q)))
 | .val v=>(v,H)
 | .no=>(.tuple #[.pointer none,.bool false],H)
 | .yes q=>(.tuple #[.pointer (some ⟨H.next,0,none⟩),.bool true],H.new (.cr (.gY q)))
def cL(r:List Value->ad->Option fl):o1:=λ_ a H=>bif j0 H then(match r a H with
 | some r=>some (r.out H)
 | none=>none) else none
def nf(f:Rat->fl)(args:List Value)(H:ad):Option fl:=match args with
 | [a]=>(match n1 H a with
   | some p=>bif bw p then some (f p) else none
   | none=>none)
 | _=>none
def k5(f:Rat->Rat->fl)(args:List Value)(H:ad):Option fl:=match args with
 | [a,b]=>(match n1 H a with
   | some p=>(match n1 H b with
     | some q=>bif bw p&&bw q then some (f p q) else none
     | none=>none)
   | none=>none)
 | _=>none
def lx(p q:Rat):Int:=if p<q then -1 else if p=q then 0 else 1
def ck(q:Rat):Int:=if q<0 then -1 else if q=0 then 0 else 1
def vb(args:List Value)(_:ad):Option fl:=match args with
 | [.int .i64 n]=>bif decide (-9223372036854775808<=n)&&decide (n<=9223372036854775807) then some (.cB (n:Rat)) else none
 | _=>none
def sL(args:List Value)(_:ad):Option fl:=match args with
 | [.string s]=>bif Nat.blt s.size 1000000 then some (match gH s.data.toList with
   | some q=>.yes q
   | none=>.no) else none
 | _=>none
def x':=k5 λp q=>.cB (p+q)
def yf:=k5 λp q=>.cB (p-q)
def yc:=k5 λp q=>.cB (p*q)
def yb:=k5 λp q=>if q=0 then .no else .yes (p/q)
def ya:=k5 λp q=>.val (.int .i64 (lx p q))
def yd:=nf λq=>.cB (-q)
def ye:=nf λq=>.val (.int .i64 (ck q))
def CJ:=nf λq=>.cB (q.floor:Rat)
def CK:=nf λq=>.val (.bool (decide (q.den=1)))
def yg:=nf λq=>.val (aA (cZ q))
structure zg(X:ar):Prop where
 Ju:X.eS F.fW=some (cL vb)
 BS:X.eS F.hQ=some (cL sL)
 Jp:X.eS F.gq=some (cL x')
 Jw:X.eS F.ik=some (cL yf)
 Js:X.eS F.fV=some (cL yc)
 Jr:X.eS F.jc=some (cL yb)
 Jq:X.eS F.gJ=some (cL ya)
 Jt:X.eS F.ij=some (cL yd)
 Jv:X.eS F.dY=some (cL ye)
 QO:X.eS F.mU=some (cL CJ)
 QP:X.eS F.lT=some (cL CK)
 Jx:X.eS F.hy=some (cL yg)
structure bs(pm:Perm)(H:ad):Prop extends bR pm H where
 dD:Tab H
structure aF(pm:Perm)(n:Nat)(H aa:ad):Prop where
 h:bs pm aa
 next:H.next<=aa.next
 get:∀b,b<n->aa.get b=H.get b
 cr:∀b o,H.get b=some (.cr o)->aa.get b=some (.cr o)
abbrev K(pm:Perm)(H aa:ad):Prop:=aF pm H.next H aa
variable{X:ar}{pm dC:Perm}{H aa bL aj:ad}{n m:Nat}
theorem bs.lt(g:bs pm H){b:Nat}{x:bk}(e:H.get b=some x):b<H.next:=g.tobR.lt e
theorem bs.may(g:bs pm H){b:Nat}(h:H.next<=b):pm.may b=true:=g.tobR.may h
theorem bs.perm(g:bs pm H)(a:dC.num=none)(b:dC.ah<=H.next):bs dC H:=⟨⟨a,b,g.wf,g.new⟩,g.dD⟩
theorem bs.make(g:bs pm H)(a:ad)(x:bk):pm.make a x=a.new x:=g.tobR.make a x
theorem bs.pick(g:bs pm H)(a:ad):pm.pick a=a.next:=g.tobR.pick a
theorem aF.refl(g:bs pm H):aF pm n H H:=⟨g,bg _,λ_ _=>rfl,λ_ _ h=>h⟩
theorem aF.mono(u:aF pm n H aa)(h:m<=n):aF pm m H aa:=⟨u.h,u.next,λb a=>u.get b (eC a h),u.cr⟩
theorem aF.trans(u:aF pm n H aa)(v:aF pm n aa bL):aF pm n H bL:=⟨v.h,aY u.next v.next,λb a=>(v.get b a).trans (u.get b a),λb o h=>v.cr b o (u.cr b o h)⟩
theorem aF.k(u:aF pm n H aa)(v:K pm aa bL)(h:n<=aa.next):aF pm n H bL:=u.trans (v.mono h)
theorem K.trans(u:K pm H aa)(v:K pm aa bL):K pm H bL:=aF.k u v u.next
theorem aF.perm(u:aF pm n H aa)(a:dC.num=none)(b:dC.ah<=aa.next):aF dC n H aa:=⟨u.h.perm a b,u.next,u.get,u.cr⟩
theorem K.refl(g:bs pm H):K pm H H:=aF.refl g
theorem K.some(k:K pm H aa)(g:bs pm H){b:Nat}{x:bk}(e:H.get b=some x):aa.get b=some x:=(k.get b (g.lt e)).trans e
theorem aF.new(u:aF pm n H aa)(h:n<=aa.next)(x:bk):aF pm n H (aa.new x) where
 h:=⟨⟨u.h.num,aY u.h.ah (oo _),λb a=>by
  have a:aa.next+1<=b:=a;rw[ad.jZ,aC (by omega)];exact u.h.wf b (by omega),λb a=>trivial⟩,by
  have:=u.h.lt u.h.dD;show(aa.new x).get 1=_;rw[ad.jZ,aC (by omega)];exact u.h.dD⟩
 next:=aY u.next (oo _)
 get:=λb a=>by rw[ad.jZ,aC (by omega)];exact u.get b a
 cr:=λb o e=>by
  have e:=u.cr b o e;have:=u.h.lt e;rw[ad.jZ,aC (by omega)];exact e
theorem K.new(g:bs pm H)(x:bk):K pm H (H.new x):=aF.new (.refl g) (bg _) x
theorem aF.put(u:aF pm n H aa){c:Nat}{y:bk}(h:n<=c)(AW:aa.get c=some y)(d:∀o,y≠.cr o)(x:bk):aF pm n H (aa.put c x) where
 h:=⟨⟨u.h.num,u.h.ah,λb a=>by
  have a:aa.next<=b:=a;have:=u.h.lt AW;rw[ad.O,aC (by omega)];exact u.h.wf b a,λb a=>trivial⟩,by
  show(aa.put c x).get 1=_;rw[ad.O,aC]
  ·exact u.h.dD
  ·rintro rfl;rw[u.h.dD]at AW;cases AW;exact d _ rfl⟩
 next:=u.next
 get:=λb a=>by rw[ad.O,aC (by omega)];exact u.get b a
 cr:=λb o e=>by
  have e:=u.cr b o e;rw[ad.O,aC]
  ·exact e
  ·rintro rfl;rw[e]at AW;cases AW;exact d _ rfl
theorem aF.up(u:aF pm n H aa)(k:Nat):aF pm n H (aa.up k) where
 h:=⟨⟨u.h.num,aY u.h.ah (e9 _ _),λb a=>u.h.wf b (aY (e9 _ _) a),λ_ _=>trivial⟩,u.h.dD⟩
 next:=aY u.next (e9 _ _)
 get:=u.get
 cr:=u.cr
def b9(H:ad)(v:Value)(q:Rat):Prop:=∃b,v=.pointer (some ⟨b,0,none⟩)/\H.get b=some (.cr (.gY q))
theorem b9.up{v:Value}{q:Rat}(h:b9 H v q)(u:aF pm n H aa):b9 aa v q:=let ⟨b,a,c⟩:=h;⟨b,a,u.cr b _ c⟩
theorem b9.of{v:Value}{q:Rat}(h:b9 H v q):n1 H v=some q:=by
 obtain⟨_,rfl,a⟩:=h;simp only[n1,a]
theorem kL(h:Tab H):j0 H=true:=by unfold j0;rw[h];rfl
theorem b9.new{q:Rat}:b9 (H.new (.cr (.gY q))) (.pointer (some ⟨H.next,0,none⟩)) q:=⟨_,rfl,b4⟩
section
variable(fr:zg X)(g:bs pm H){v w:Value}{p q:Rat}(bX:n1 H v=some p)(cv:n1 H w=some q)(s1:bw p=true)(s2:bw q=true)
include g fr
theorem o0{n:Int}(ez:-9223372036854775808<=n)(bX:n<=9223372036854775807):Call X pm F.fW [.int .i64 n] H λr aa=>K pm H aa/\b9 aa r (n:Rat):=
 Call.over fr.Ju (v:=.pointer (some ⟨H.next,0,none⟩)) (aa:=H.new (.cr (.gY n))) (by simp[cL,kL g.dD,vb,ez,bX,fl.out]) ⟨K.new g _,.new⟩
theorem vX{l:List UInt8}(g':l.length<1000000):Call X pm F.hQ [aA l] H λr aa=>K pm H aa/\(gH l=none/\r=.tuple #[.pointer none,.bool false]∨∃q p,gH l=some q/\r=.tuple #[p,.bool true]/\b9 aa p q):=by
 cases e:gH l with
 | none=>exact Call.over fr.BS (v:=.tuple #[.pointer none,.bool false]) (aa:=H) (by simp[cL,kL g.dD,sL,e,g',fl.out,fG]) ⟨K.refl g,.inl ⟨rfl,rfl⟩⟩
 | some q=>exact Call.over fr.BS (v:=.tuple #[.pointer (some ⟨H.next,0,none⟩),.bool true]) (aa:=H.new (.cr (.gY q))) (by simp[cL,kL g.dD,sL,e,g',fl.out,fG]) ⟨K.new g _,.inr ⟨q,_,rfl,rfl,.new⟩⟩
include bX s1
theorem wa:Call X pm F.ij [v] H λr aa=>K pm H aa/\b9 aa r (-p):=
 Call.over fr.Jt (v:=.pointer (some ⟨H.next,0,none⟩)) (aa:=H.new (.cr (.gY (-p)))) (by simp[cL,kL g.dD,yd,C.nf,bX,s1,fl.out]) ⟨K.new g _,.new⟩
theorem Y8:Call X pm F.mU [v] H λr aa=>K pm H aa/\b9 aa r (p.floor:Rat):=
 Call.over fr.QO (v:=.pointer (some ⟨H.next,0,none⟩)) (aa:=H.new (.cr (.gY p.floor))) (by simp[cL,kL g.dD,CJ,C.nf,bX,s1,fl.out]) ⟨K.new g _,.new⟩
theorem jr:Call X pm F.dY [v] H λr aa=>aa=H/\r=.int .i64 (ck p):=
 Call.over fr.Jv (v:=.int .i64 (ck p)) (aa:=H) (by simp[cL,kL g.dD,ye,C.nf,bX,s1,fl.out]) ⟨rfl,rfl⟩
theorem Zb:Call X pm F.lT [v] H λr aa=>aa=H/\r=.bool (decide (p.den=1)):=
 Call.over fr.QP (v:=.bool (decide (p.den=1))) (aa:=H) (by simp[cL,kL g.dD,CK,C.nf,bX,s1,fl.out]) ⟨rfl,rfl⟩
theorem tv:Call X pm F.hy [v] H λr aa=>aa=H/\r=aA (cZ p):=
 Call.over fr.Jx (v:=aA (cZ p)) (aa:=H) (by simp[cL,kL g.dD,yg,C.nf,bX,s1,fl.out]) ⟨rfl,rfl⟩
include cv s2
theorem q5:Call X pm F.gq [v,w] H λr aa=>K pm H aa/\b9 aa r (p+q):=
 Call.over fr.Jp (v:=.pointer (some ⟨H.next,0,none⟩)) (aa:=H.new (.cr (.gY (p+q)))) (by simp[cL,kL g.dD,x',C.k5,bX,cv,s1,s2,fl.out]) ⟨K.new g _,.new⟩
theorem zp:Call X pm F.ik [v,w] H λr aa=>K pm H aa/\b9 aa r (p-q):=
 Call.over fr.Jw (v:=.pointer (some ⟨H.next,0,none⟩)) (aa:=H.new (.cr (.gY (p-q)))) (by simp[cL,kL g.dD,yf,C.k5,bX,cv,s1,s2,fl.out]) ⟨K.new g _,.new⟩
theorem pY:Call X pm F.fV [v,w] H λr aa=>K pm H aa/\b9 aa r (p*q):=
 Call.over fr.Js (v:=.pointer (some ⟨H.next,0,none⟩)) (aa:=H.new (.cr (.gY (p*q)))) (by simp[cL,kL g.dD,yc,C.k5,bX,cv,s1,s2,fl.out]) ⟨K.new g _,.new⟩
theorem vT(ez:q≠0):Call X pm F.jc [v,w] H λr aa=>K pm H aa/\∃x,r=.tuple #[x,.bool true]/\b9 aa x (p/q):=
 Call.over fr.Jr (v:=.tuple #[.pointer (some ⟨H.next,0,none⟩),.bool true]) (aa:=H.new (.cr (.gY (p/q)))) (by simp[cL,kL g.dD,yb,C.k5,bX,cv,s1,s2,ez,fl.out]) ⟨K.new g _,_,rfl,.new⟩
theorem q8:Call X pm F.gJ [v,w] H λr aa=>aa=H/\r=.int .i64 (lx p q):=
 Call.over fr.Jq (v:=.int .i64 (lx p q)) (aa:=H) (by simp[cL,kL g.dD,ya,C.k5,bX,cv,s1,s2,fl.out]) ⟨rfl,rfl⟩
end
end Go.Dam.C
namespace Go.Dam
open Go
section
variable{X:ar}{pm:Perm}{Q hF:b5}
theorem dz.mono(h:∀x l H,Q x l H->hF x l H):∀{au:List Fr} {x:dS} {e:Env} {H:ad},dz X pm x e H au Q->dz X pm x e H au hF
 | [],_,_,_,⟨l,a,b⟩=>⟨l,a,h _ _ _ b⟩
 | .seq _::au,x,e,H,q=>by
   cases x with
   | normal=>
     obtain⟨a,b,c,d,e⟩:=q;exact⟨a,b,c,d,dz.mono h e⟩
   | exit i=>exact dz.mono (au:=au) (x:=.exit i) h q
   | ret=>exact dz.mono (au:=au) (x:=.ret) h q
 | .aW id::au,x,e,H,q=>by
   cases x with
   | normal=>exact dz.mono (au:=au) (x:=.normal) h q
   | ret=>exact dz.mono (au:=au) (x:=.ret) h q
   | exit _=>
     simp only[dz]at q|-;split
     ·rename_i f;rw[aT f]at q;exact dz.mono h q
     ·rename_i g;rw[aC g]at q;exact dz.mono h q
theorem gP.mono(h:∀x l H,Q x l H->hF x l H){c:kA}{l:bb}{H:ad}{au:List Fr}(q:gP X pm c l H au Q):gP X pm c l H au hF:=λe a=>by
 have:=q e a
 cases c with
 | code c=>obtain⟨a,b,d,e,f⟩:=this;exact⟨a,b,d,e,dz.mono h f⟩
 | ops _=>obtain⟨a,b,c,d⟩:=this;exact⟨a,b,c,dz.mono h d⟩
 | res x=>exact dz.mono h this
theorem wp_mono(h:∀x l H,Q x l H->hF x l H){c:kA}{l:bb}{H:ad}{au:List Fr}:wp X pm c l H au Q->wp X pm c l H au hF:=by
 fun_induction wp X pm c l H au Q with
 | case1 l H au ih=>intro q;rw[wp];exact ih q
 | case2 l H au _ ih=>intro q;rw[wp];exact ih q
 | case3=>intro q;rw[wp];exact gP.mono h q
 | case4 l H au _ _ ih=>intro q;rw[wp];exact ih q
 | case5 l H au c _ _ _ a b d=>intro q;rw[wp];rw[a];exact⟨λe=>b (q.1 e),λe=>d (q.2 e)⟩
 | case6=>intro q;exact q.elim
 | case7 l H au id _ ih=>intro q;rw[wp];exact ih q
 | case8=>intro q;rw[wp];exact gP.mono h q
 | case9 l H au id ih=>intro q;rw[wp];exact ih q
 | case10 l H au ih=>intro q;rw[wp];exact ih q
 | case11=>intro q;exact q.elim
 | case12 l H au ih=>intro q;rw[wp];exact ih q
 | case13 l H au _ _ _ _ a=>intro q;rw[wp];rw[a];exact gP.mono h q
 | case14 l H au _ _ _ _ a=>intro q;rw[wp];rw[a];exact gP.mono h q
 | case15 l H au _ _ _ _ a b c ih=>
   intro q;rw[wp];split
   ·rename_i _ _ f;exact absurd f (b _ _)
   ·rename_i _ _ g;exact absurd g (c _ _)
   ·rw[a];exact ih q
 | case16=>intro q;exact q.elim
 | case17 l H x=>intro q;rw[wp];exact h _ _ _ q
 | case18 l H _ au ih=>intro q;rw[wp];exact ih q
 | case19 l H _ au x a ih=>intro q;cases x with
   | normal=>exact absurd rfl a
   | exit _=>rw[DD];exact ih q
   | ret=>rw[DE];exact ih q
 | case20 l H id au ih=>intro q;rw[vB,aT rfl];exact ih q
 | case21 l H id au _ a ih=>intro q;rw[vB,aC a];exact ih q
 | case22 l H id au x a ih=>intro q;cases x with
   | normal=>rw[DB];exact ih q
   | exit i=>exact absurd rfl (a i)
   | ret=>rw[DC];exact ih q
end
section
variable{X:ar}{pm:Perm}{Q hF:b5}
theorem dz.frame{a:List Fr}(h:∀x l H,hF x l H->wp X pm (.res x) l H a Q):∀{au:List Fr} {x:dS} {e:Env} {H:ad},dz X pm x e H au hF->dz X pm x e H (au++a) Q
 | [],x,e,H,⟨l,b,c⟩=>kx (h _ _ _ c) e b
 | .seq _::au,x,e,H,q=>by
   cases x with
   | normal=>
     obtain⟨b,c,d,e,f⟩:=q;exact⟨b,c,d,e,dz.frame h f⟩
   | exit i=>exact dz.frame (au:=au) (x:=.exit i) h q
   | ret=>exact dz.frame (au:=au) (x:=.ret) h q
 | .aW id::au,x,e,H,q=>by
   cases x with
   | normal=>exact dz.frame (au:=au) (x:=.normal) h q
   | ret=>exact dz.frame (au:=au) (x:=.ret) h q
   | exit _=>
     simp only[dz,kl]at q|-;split
     ·rename_i g;rw[aT g]at q;exact dz.frame h q
     ·rename_i j;rw[aC j]at q;exact dz.frame h q
theorem gP.frame{a:List Fr}(h:∀x l H,hF x l H->wp X pm (.res x) l H a Q){c:kA}{l:bb}{H:ad}{au:List Fr}(q:gP X pm c l H au hF):gP X pm c l H (au++a) Q:=λe a=>by
 have:=q e a
 cases c with
 | code c=>obtain⟨a,b,d,e,f⟩:=this;exact⟨a,b,d,e,dz.frame h f⟩
 | ops _=>obtain⟨a,b,c,d⟩:=this;exact⟨a,b,c,dz.frame h d⟩
 | res x=>exact dz.frame h this
theorem TT{a:List Fr}(h:∀x l H,hF x l H->wp X pm (.res x) l H a Q){c:kA}{l:bb}{H:ad}{au:List Fr}:wp X pm c l H au hF->wp X pm c l H (au++a) Q:=by
 fun_induction wp X pm c l H au hF with
 | case1 l H au ih=>intro q;rw[wp];exact ih q
 | case2 l H au _ ih=>intro q;rw[wp];exact ih q
 | case3=>intro q;rw[wp];exact gP.frame h q
 | case4 l H au _ _ ih=>intro q;rw[wp];exact ih q
 | case5 l H au c _ _ _ b d f=>intro q;rw[wp];rw[b];exact⟨λe=>d (q.1 e),λe=>f (q.2 e)⟩
 | case6=>intro q;exact q.elim
 | case7 l H au id _ ih=>intro q;rw[wp];exact ih q
 | case8=>intro q;rw[wp];exact gP.frame h q
 | case9 l H au id ih=>intro q;rw[wp];exact ih q
 | case10 l H au ih=>intro q;rw[wp];exact ih q
 | case11=>intro q;exact q.elim
 | case12 l H au ih=>intro q;rw[wp];exact ih q
 | case13 l H au _ _ _ _ b=>intro q;rw[wp];rw[b];exact gP.frame h q
 | case14 l H au _ _ _ _ b=>intro q;rw[wp];rw[b];exact gP.frame h q
 | case15 l H au _ _ _ _ b c d ih=>
   intro q;rw[wp];split
   ·rename_i _ _ g;exact absurd g (c _ _)
   ·rename_i _ _ i;exact absurd i (d _ _)
   ·rw[b];exact ih q
 | case16=>intro q;exact q.elim
 | case17 l H x=>intro q;exact h _ _ _ q
 | case18 l H _ au ih=>intro q;rw[kl,wp];exact ih q
 | case19 l H _ au x b ih=>intro q;cases x with
   | normal=>exact absurd rfl b
   | exit _=>rw[kl,DD];exact ih q
   | ret=>rw[kl,DE];exact ih q
 | case20 l H id au ih=>intro q;rw[kl,vB,aT rfl];exact ih q
 | case21 l H id au _ b ih=>intro q;rw[kl,vB,aC b];exact ih q
 | case22 l H id au x b ih=>intro q;cases x with
   | normal=>rw[kl,DB];exact ih q
   | exit c=>exact absurd rfl (b c)
   | ret=>rw[kl,DC];exact ih q
theorem wp_cut{c:kA}{l:bb}{H:ad}{au:List Fr}(hF:b5)(q:wp X pm c l H [] hF)(h:∀x l H,hF x l H->wp X pm (.res x) l H au Q):wp X pm c l H au Q:=TT (au:=[]) h q
end
end Go.Dam
namespace Go.Dam.C
open Go Go.Dam
variable{X:ar}{pm:Perm}{H aa:ad}
def vV(X:ar)(pm:Perm)(f:Nat)(au:List Fr)(Q:b5)(b:bb->ad->Prop):b5:=λx a aa=>match x with
 | .normal=>b a aa
 | .exit j=>if j=f then b a aa else wp X pm (.res (.exit j)) a aa au Q
 | .ret=>wp X pm (.res .ret) a aa au Q
@[simp] theorem T'{f:Nat}{au:List Fr}{Q:b5}{a:bb->ad->Prop}{l:bb}:vV X pm f au Q a .normal l H=a l H:=rfl
@[simp] theorem Ua{f:Nat}{au:List Fr}{Q:b5}{a:bb->ad->Prop}{l:bb}:vV X pm f au Q a .ret l H=wp X pm (.res .ret) l H au Q:=rfl
@[simp] theorem Mm{f:Nat}{au:List Fr}{Q:b5}{a:bb->ad->Prop}{l:bb}{i:Nat}:vV X pm f au Q a (.exit i) l H=if i=f then a l H else wp X pm (.res (.exit i)) l H au Q:=rfl
theorem Gc{i c:Nat}{u v:Value}{aN:bb}:∀(M:bb),aK i M=none->aK c M=none->Sub M aN->Sub M ((i,u)::(c,v)::aN)
 | [],_,_,_=>trivial
 | (j,_)::M,a,b,d=>by
   simp only[BH]at a b;by_cases e:i=j
   ·rw[aT e]at a;cases a
   by_cases f:c=j
   ·rw[aT f]at b;cases b
   rw[aC e]at a;rw[aC f]at b;simp only[ts,BH,Ne.symm e,Ne.symm f,if_false]at d|-;exact⟨d.1,Gc M a b d.2⟩
theorem eE{σ:Type}{c i n a e f:Nat}{B:aM}{l:bb}{au:List Fr}{Q:b5}(N:Nat)(L:Nat->σ->bb)(I:Nat->σ->ad->Prop)(d:σ)
 (q:Sub ((i,.int .i64 0)::(n,.int .i64 (N:Int))::L 0 d) l) (ez:I 0 d H)
 (r:∀k s H,k<N->I k s H->wp X pm (.code B) ((c,.bool true)::(i,.int .i64 (k:Int))::(n,.int .i64 (N:Int))::L k s) H []
  (vV X pm f au Q λaN aa=>∃b,Sub ((i,.int .i64 (k:Int))::(n,.int .i64 (N:Int))::L (k+1) b) aN/\I (k+1) b aa))
 (t:∀s H,I N s H->wp X pm (.res (.exit e)) ((c,.bool false)::(i,.int .i64 (N:Int))::(n,.int .i64 (N:Int))::L N s) H au Q) (u:c≠i/\c≠n/\a≠i/\a≠n/\i≠n:=by decide) (D:N<9223372036854775807:=by omega) (j:∀k s,aK i (L k s)=none/\aK a (L k s)=none:=by simp):
 ef X pm (.seq (.bj [o c (.bin .lss .bE (.t i) (.t n))]) (.seq (.cond (.t c) .skip (.exit e)) (.seq (.block f B) (.bj [o a (.bin .add .bE (.t i) (.c (.int .i64 (.ofNat 1)))),m i a])))) l H au Q:=by
 obtain⟨_,_,_,v,g⟩:=u;refine ef.of (σ:=Nat×σ) (λs=>(i,.int .i64 (s.1:Int))::(n,.int .i64 (N:Int))::L s.1 s.2) (λs H=>s.1<=N/\I s.1 s.2 H) (λs=>N-s.1) (0,d) (by simpa using q) ⟨Nat.zero_le _,ez⟩ ?_;rintro⟨k,s⟩ H ⟨w,h⟩;simp only at w h|-;by_cases p:k<N
 ·have l:wr .i64 ((k:Int)+1)=((k+1:Nat):Int):=by rw[b8];simp
  simp[Ne.symm g,p];refine wp_cut _ (r k s H p h) λx aN aa b=>?_
  have e:(∃c,Sub ((i,.int .i64 (k:Int))::(n,.int .i64 (N:Int))::L (k+1) c) aN/\I (k+1) c aa)->wp X pm (.res .normal) aN aa [.seq (.bj [o a (.bin .add .bE (.t i) (.c (.int .i64 (.ofNat 1)))),m i a])] λx aN aa=>match x with
   | .normal=>jk (λ(s:Nat×σ)=>(i,.int .i64 (s.1:Int))::(n,.int .i64 (N:Int))::L s.1 s.2) (λs H=>s.1<=N/\I s.1 s.2 H) (λs=>N-s.1) (k,s) aN aa
   | x=>wp X pm (.res x) aN aa au Q:=by
   rintro⟨c,f,m⟩;simp only[ts]at f;obtain⟨o,y,z⟩:=f;simp[o,l];refine .of (k+1,c) (by show N-(k+1)<N-k;omega) ?_ ⟨by show k+1<=N;omega,m⟩;simp only[ts,BH,if_true,Ne.symm g,if_false,Ne.symm v];exact⟨rfl,y,Gc _ (j _ _).1 (j _ _).2 z⟩
  cases x with
  | normal=>rw[DB];exact e b
  | exit _=>
    rw[Mm]at b;rw[vB];split
    ·rename_i A;rw[aT A]at b;exact e b
    ·rename_i C;rw[aC C]at b;rw[DD,LM];exact b
  | ret=>rw[DC,DE,LM];exact b
 ·obtain rfl:k=N:=by omega
  simp[Ne.symm g];exact t s H h
theorem eM{o:aw}{f:FuncId}{args:List bC}{bW:List Bool}{os:List aw}{aE k:Nat}{l:bb}{b:List Rec}{c:Fin}{az:List Value}{R:Value->ad->Prop}(g:bs pm H)(d:H.get (aE+k)=none)
 (e:bW.headD false=false) (h:∀dC,bs dC H->Call X dC f az H λr aa=>K dC H aa/\R r aa)
 (i:∀v a,K pm H a->R v a->iD X pm bW.tail os aE (k+1) (hP l o.dst v) a (⟨[],ed ⟨pm.ah,pm.ok,some (aE+k)⟩ az,H,v,λ_=>none⟩::b) c) (AW:ia o l=some true:=by simp) (eA:dN (hd l) args=some az:=by simp):fL X pm o f args bW os aE k l H b c:=
 fL.of d AW eA e (h _ (g.perm rfl (bg _))) λv a ⟨b,r⟩=>i v a (b.perm g.num (aY g.ah b.next)) r
theorem gS{o:aw}{f:FuncId}{args:List bC}{bW:List Bool}{os:List aw}{aE k:Nat}{l:bb}{b:List Rec}{c:Fin}{az:List Value}{R:Value->ad->Prop}(g:bs pm H)(d:H.get (aE+k)=none)
 (e:bW.headD false=true) (h:∀dC,bs dC H->Call X dC f az H λr aa=>K dC H aa/\R r aa)
 (i:∀v a,K pm H a->R v a->iD X pm bW.tail os aE (k+1) (hP l o.dst v) a (⟨[],[],H,v,λ_=>none⟩::b) c) (AW:ia o l=some true:=by simp) (eA:dN (hd l) args=some az:=by simp):fL X pm o f args bW os aE k l H b c:=
 fL.fixed d AW eA e (h _ (g.perm rfl g.ah)) λv a ⟨b,r⟩=>i v a (b.perm g.num (aY g.ah b.next)) r
theorem jR{f:FuncId}{az:List Value}{R:Value->Prop}(g:bs pm H)(h:Call X pm f az H λr aa=>aa=H/\R r):Call X pm f az H λr aa=>K pm H aa/\aa=H/\R r:=
 h.mono λ_ _ ⟨a,b⟩=>by subst a;exact⟨K.refl g,rfl,b⟩
end Go.Dam.C
namespace Go.Dam.C
open Go Go.Dam
theorem jT(l:List Nat):du [] l=true:=rfl
theorem dM(l:List Nat):du l []=true:=by simp[du]
theorem xY(m:Perm)(l:List UInt8):ed m [aA l]=[]:=rfl
structure dy where
 name:List UInt8
 low:List UInt8
 up:List UInt8
 cost:List UInt8
 int:Bool
structure dq where
 af:Int
 v:List UInt8
structure bQ where
 name:List UInt8
 kind:Int
 j:List dq
 rhs:List UInt8
 kp:List UInt8
structure aI where
 a:List dy
 rows:List bQ
def dy.cells(c:dy):List Value:=[aA c.name,aA c.low,aA c.up,aA c.cost,.bool c.int]
def dq.cells(c:dq):List Value:=[.int .i64 c.af,aA c.v]
def bQ.cells(r:bQ)(bP:Value):List Value:=[aA r.name,.int .i64 r.kind,bP,aA r.rhs,aA r.kp]
def isNum(l:List UInt8):Bool:=(gH l).isSome
def rd(l:List UInt8):Rat:=(gH l).getD 0
structure c8(H:ad)(v:Value)(m w:Nat)(P:Nat->List Value->Prop):Prop where
 ex:∃base cap,v=.slice base m cap/\∀i,i<m->∃b off y row cs,base=some ⟨b,off,none⟩/\H.get b=some y/\rowOf y=some row/\bx row (off+i*w) w=some cs/\P i cs
def gC(H:ad)(v:Value)(l:List dy):Prop:=c8 H v l.length 5 λi a=>∃c,l[i]? = some c/\a=c.cells
def gB(H:ad)(v:Value)(l:List dq):Prop:=c8 H v l.length 2 λi a=>∃c,l[i]? = some c/\a=c.cells
def iM(H:ad)(v:Value)(l:List bQ):Prop:=c8 H v l.length 5 λi b=>∃r a,l[i]? = some r/\b=r.cells a/\gB H a r.j
def iL(H:ad)(v:Value)(ab:aI):Prop:=∃a b,v=.agg #[a,b]/\gC H a ab.a/\iM H b ab.rows
structure iO(X:ar):Prop extends zg X where
 jy:Has X F.jy C.jy
 hf:Has X F.hf C.hf
 og:Has X F.og C.og
 oh:Has X F.oh C.oh
 i':Has X F.i' C.i'
 oe:Has X F.oe C.oe
 mP:Has X F.mP C.mP
 ke:Has X F.ke C.ke
 py:Has X F.py C.py
 px:Has X F.px C.px
 pw:Has X F.pw C.pw
 qD:Has X F.qD C.qD
 mS:Has X F.mS C.mS
 mQ:Has X F.mQ C.mQ
 qE:Has X F.qE C.qE
 qF:Has X F.qF C.qF
 qG:Has X F.qG C.qG
 pv:Has X F.pv C.pv
 oA:Has X F.oA C.oA
 l3:Has X F.l3 C.l3
 nm:Has X F.nm C.nm
 oB:Has X F.oB C.oB
variable{X:ar}{pm:Perm}{H aa bL:ad}{n:Nat}
theorem c8.imp{v:Value}{m w:Nat}{P a:Nat->List Value->Prop}(h:c8 H v m w P)(AW:∀b y,H.get b=some y->aa.get b=some y)(c:∀i cs,i<m->P i cs->a i cs):c8 aa v m w a:=by
 obtain⟨a,d,e,f⟩:=h.ex;exact⟨a,d,e,λi a=>by
  obtain⟨b,d,y,e,cs,g,h,j,k,l⟩:=f i a;exact⟨b,d,y,e,cs,g,AW _ _ h,j,k,c _ _ a l⟩⟩
theorem gC.ext{v:Value}{l:List dy}(h:gC H v l)(AW:Ext H aa):gC aa v l:=c8.imp h AW λ_ _ _=>id
theorem gB.ext{v:Value}{l:List dq}(h:gB H v l)(AW:Ext H aa):gB aa v l:=c8.imp h AW λ_ _ _=>id
theorem iM.ext{v:Value}{l:List bQ}(h:iM H v l)(AW:Ext H aa):iM aa v l:=
 c8.imp h AW λ_ _ _ ⟨r,a,b,c,d⟩=>⟨r,a,b,c,d.ext AW⟩
theorem iL.ext{v:Value}{ab:aI}(h:iL H v ab)(AW:Ext H aa):iL aa v ab:=by
 obtain⟨a,b,c,d,e⟩:=h;exact⟨a,b,c,d.ext AW,e.ext AW⟩
theorem K.ext(k:K pm H aa)(g:bs pm H):Ext H aa:=λ_ _ h=>k.some g h
theorem c8.at{v:Value}{m w:Nat}{P:Nat->List Value->Prop}(h:c8 H v m w P):∃a cap,v=.slice a m cap/\∀i,i<m->∃b off y row cs,a=some ⟨b,off,none⟩/\H.get b=some y/\rowOf y=some row/\bx row (off+i*w) w=some cs/\P i cs:=h.ex
theorem uJ(a:iO X)(g:bs pm H){l:List UInt8}(g':l.length<1000000):Call X pm F.jy [aA l] H λr aa=>K pm H aa/\r=.bool (isNum l):=by
 refine Call.has a.jy rfl ?_;simp;refine aq.of (vX a.tozg g g') ?_;rintro r _ ⟨b,h⟩
 rcases h with⟨e,rfl⟩ | ⟨q,p,e,rfl,xm⟩
 ·simp[isNum,e];exact b
 ·simp[isNum,e];exact b
theorem CX(a:iO X)(g:bs pm H){l:List UInt8} (b:isNum l=true)(g':l.length<1000000:=by omega):Call X pm F.hf [aA l] H λr aa=>K pm H aa/\b9 aa r (rd l):=by
 refine Call.has a.hf rfl ?_;simp;refine aq.of (vX a.tozg g g') ?_;rintro r _ ⟨c,h⟩
 rcases h with⟨e,rfl⟩ | ⟨q,p,e,rfl,xm⟩
 ·simp[isNum,e]at b
 ·simp[rd,e];exact⟨c,xm⟩
theorem G6{t:List UInt8}:(iT t).1.length<=t.length/\(iT t).2.length<=max t.length 1:=by
 unfold iT;split
 ·refine⟨(List.takeWhile_sublist _).length_le,aY ?_ (Nat.le_max_left _ _)⟩;rw[List.length_tail];exact aY (Nat.sub_le _ _) (List.dropWhile_sublist _).length_le
 ·simp;omega
theorem Jf{l:List UInt8}:(gn l).2.length<=l.length:=by
 unfold gn;split<;>simp
theorem jg{l:List UInt8}{k:Nat}(h:l.length<=k) (b:1<=k:=by decide):aS (rd l) k:=by
 unfold rd
 cases e:gH l with
 | none=>
   have:4294967296^1<=4294967296^k:=fX (by decide) b;exact⟨by show 0<_;omega,by show 1<_;omega⟩
 | some _=>
   unfold gH lD at e;split at e
   ·rename_i c;obtain⟨d,f,a,_⟩:=c;simp only[ax]at e;have m:=@G6 (gn l).2;have n:=@Jf l;have g:=(xk d).1;have h:=(xk f).1;have i:=kg g (show _<=k by omega);have j:=kg h (show _<=k by omega);rw[<-e];simp only[jf];exact⟨by rw[BN a];exact cV (kk _ _) i,by rw[BM a];exact cV (kk _ _) j⟩
   ·cases e
theorem CS{l:List UInt8}(h:l.length<=10000):bw (rd l)=true:=(jg (k:=10000) h).bw (by decide)
theorem qa(p q:Rat):(lx p q<0)=(p<q):=by
 unfold lx;apply propext;by_cases h:p<q
 ·simp[h]
 ·by_cases a:p=q<;>simp[h,a]
theorem cmp_eq(p q:Rat):(lx p q=0)=(p=q):=by
 unfold lx;apply propext;by_cases h:p<q
 ·simp only[h,if_true];exact⟨λh=>by omega,λe=>absurd (e▸h) qK⟩
 ·by_cases a:p=q<;>simp[h,a]
theorem wI(p q:Rat):(0<lx p q)=(q<p):=by
 unfold lx;apply propext;by_cases h:p<q
 ·simp only[h,if_true];exact⟨λh=>by omega,λe=>absurd e (pD.2 (iu h))⟩
 ·by_cases a:p=q
  ·subst a;simp
  ·simp only[h,a,if_false];exact⟨λ_=>Rat.lt_of_le_of_ne (pD.1 h) (Ne.symm a),λ_=>by omega⟩
theorem QJ(p q:Rat):(!decide (p<=q))=decide (q<p):=by
 by_cases h:p<=q
 ·simp[h,pD.2 h]
 ·simp[h,Rat.not_le.1 h]
end Go.Dam.C
namespace Go.Dam.C
open Go Go.Dam
def h6(c:dy):Bool:=isNum c.cost&&((c.low.isEmpty||isNum c.low)&&((c.up.isEmpty||isNum c.up)&&(c.low.isEmpty||(c.up.isEmpty||decide (rd c.low<=rd c.up)))))
def dy.ok(c:dy):Prop:=c.low.length<=10000/\c.up.length<=10000/\c.cost.length<=10000
variable{X:ar}{pm:Perm}{H aa bL:ad}
def rp(b:List ld)(R:Value->ad->Prop):b5:=λx l aa=>(x=.normal∨x=.ret)/\∃a,hU l aa b=some a/\R (f' a) aa
@[simp] theorem eL{a:List ld}{R:Value->ad->Prop}{x:dS}{l:bb}{aa:ad}:rp a R x l aa=((x=.normal∨x=.ret)/\∃az,hU l aa a=some az/\R (f' az) aa):=rfl
theorem Call.kK{f:FuncId}{args:List Value}{R:Value->ad->Prop}{F:aZ}(a:Has X f F)(b:Nat.ble args.length F.hN=true)
 (h:wp X pm (.code F.body) (p7 args 0 []) H [] (rp F.res R)):Call X pm f args H R:=Call.has a b h
theorem bs.none(g:bs pm H)(t:Nat):H.get (H.next+t)=Option.none:=g.wf _ (e9 _ _)
theorem bs.J(g:bs pm H):H.get H.next=Option.none:=g.wf _ (bg _)
theorem aF.res{n:Nat}{a:ad}(u:K pm (H.up n) a)(g:bs pm H):∀t,t<n->a.get (H.next+t)=none:=λt _=>(u.get _ (by show H.next+t<H.next+n;omega)).trans (g.none t)
theorem G2(e:iO X){aj:ad}(f:K pm aj H){ie ah up co:List UInt8}{i:Bool}(s:ah.length<=10000)(t:up.length<=10000)(cf:ah.isEmpty=true∨isNum ah=true)(k:up.isEmpty=true∨isNum up=true){b:Nat}{z:cz}(AW:H.get b=some (.cells [aA ie,aA ah,aA up,aA co,.bool i] z)){L:bb}(l:aK 1 L=some (.pointer (some ⟨b,0,none⟩))):
 wp X pm (.code hO) L H [] (rp [.slot 2] λr aa=>K pm aj aa/\r=.bool (ah.isEmpty||(up.isEmpty||decide (rd ah<=rd up)))):=by
 have g:=f.h;have a:∀u,H.get (H.next+u)=none:=g.none;have m:H.get H.next=none:=g.J;have n:=g.lt AW;have h:K pm H (H.up 19):=(K.refl g).up 19;simp[-eL];refine cy.of g.ah rfl ?_;by_cases i:ah.isEmpty=true∨up.isEmpty=true
 ·have d:(ah.isEmpty||up.isEmpty)=true:=by simpa using i
  have j:=f.trans h;cases b:ah.isEmpty<;>cases c:up.isEmpty<;>first | (simp[b,c]at d;done) | skip
  all_goals
   simp[b7,a,m,l,AW,iP,b,c]
   refine fL.not (by simp[a]) ?_
   simp
   refine fL.not (by simp[a]) ?_
   simp
   refine fL.not (by simp[a]) ?_
   simp[a,cj,cd,n, dM]
   exact j
 ·have o:ah.isEmpty=false:=by cases j:ah.isEmpty<;>simp[j]at i|-
  have p:up.isEmpty=false:=by cases j:up.isEmpty<;>simp[j]at i|-
  simp[o]at cf;simp[p]at k;simp[b7,a,m,l,AW,iP,o,p];refine eM h.h (az:=[aA ah]) (by simp[a]) rfl (λq b=>CX e b cf) ?_;rintro v _ c w;have a:=c.res g;simp;refine gS c.h (az:=[aA up]) (by simp[a]) rfl (λq b=>CX e b k) ?_;rintro a _ d x;have r:=(c.trans d).res g;simp;refine gS d.h (az:=[v,a]) (by simp[r]) rfl (λq b=>jR b (q8 e.tozg b (w.up d).of x.of (CS s) (CS t))) ?_;rintro _ _ _ ⟨rfl,rfl⟩;simp[r,cj,cd,n,jT,dM,xY,wI,QJ];exact f.trans (h.trans (c.trans d))
theorem zX(f:iO X){aj:ad}(a:K pm aj H){ie ah up co:List UInt8}{i:Bool}(g:ah.length<=10000)(h:up.length<=10000){b:Nat}{z:cz}(AW:H.get b=some (.cells [aA ie,aA ah,aA up,aA co,.bool i] z)){L:bb}(d:aK 1 L=some (.pointer (some ⟨b,0,none⟩)))
 {c:Bool} (cf:c=false->ah.isEmpty=true∨isNum ah=true) (b:aK 17 L=some (.bool c)) :
 wp X pm (.ops (kd.drop 3)) L H [.seq mR,.seq hO] (rp [.slot 2] λr aa=>K pm aj aa/\r=.bool (!c&&((up.isEmpty||isNum up)&&(ah.isEmpty||(up.isEmpty||decide (rd ah<=rd up)))))):=by
 rw[show kd.drop 3=(m 18 17)::⟨(some 19),(some (18,false)),.fieldAddr 2 (.t 1)⟩::⟨(some 20),(some (18,false)),.load false 1 (.t 19)⟩::⟨(some 21),(some (18,false)),.bin .neq .bE (.t 20) (.c (.string ⟨#[]⟩))⟩::⟨(some 22),(some (18,false)),.cM (.t 21)⟩::⟨(some 23),(some (22,true)),.fieldAddr 2 (.t 1)⟩::⟨(some 24),(some (22,true)),.load false 1 (.t 23)⟩::⟨(some 25),(some (22,true)),.call F.jy [(.t 24)]⟩::B9 from rfl]
 cases c with
 | true=>
   simp[b,-hO,-eL];refine aq.not (AW:=by simp[bz]) ?_;simp[bz];exact a
 | false=>
   have cf:=cf rfl
   cases e:up.isEmpty with
   | true=>
     simp[b,d,AW,iP,e,-hO,-eL];refine aq.not ?_;simp[-hO,-eL];refine wp_mono (λ_ l aa c=>?_) (G2 f a (ie:=ie) (co:=co) (i:=i) g h cf (.inl e) AW (by simp[d]));simpa [e]using c
   | false=>
     simp[b,d,AW,iP,e,-hO,-eL];refine aq.of (uJ f a.h (l:=up) (by omega)) ?_;rintro _ _ ⟨c,rfl⟩
     cases j:isNum up with
     | true=>
       simp[-hO,-eL];refine wp_mono (λ_ l aa b=>?_) (G2 f (a.trans c) (ie:=ie) (co:=co) (i:=i) g h cf (.inr j) (c.some a.h AW) (by simp[d]));simpa [e]using b
     | false=>
       simp[-hO];exact a.trans c
theorem NB(a:iO X)(g:bs pm H){c:dy}(w:c.ok):Call X pm F.og [.agg c.cells.toArray] H λr aa=>K pm H aa/\r=.bool (h6 c):=by
 obtain⟨ie,b,u,co,i⟩:=c;obtain⟨f,h,x⟩:=w;simp only at f h x;refine Call.kK a.og rfl ?_;obtain⟨j,m⟩:∃j,j=H.new (.cells [aA ie,aA b,aA u,aA co,.bool i] (.t T.JW)):=⟨_,rfl⟩;have n:K pm H j:=by rw[m];exact K.new g _
 have p:j.get H.next=some (.cells [aA ie,aA b,aA u,aA co,.bool i] (.t T.JW)):=by rw[m];exact b4
 obtain⟨j,v⟩:∃j,j=H.next:=⟨_,rfl⟩;rw[<-v]at p;simp[g.pick,g.make,ptr,dy.cells,<-m,<-v,p,-hO,-kd,-mR,-eL];refine aq.of (uJ a n.h (l:=co) (by omega)) ?_;rintro r _ ⟨k,rfl⟩;have d:=k.some n.h p;have q:=n.trans k;have s:kd=⟨(some 15),(some (11,true)),.un .not (.t 14)⟩::⟨(some 16),(some (7,false)),.pick (.t 11) (.t 15) (.c (.bool false))⟩::(o 17 (.pick (.t 7) (.c (.bool true)) (.t 16)))::kd.drop 3:=rfl
 cases t:isNum co with
 | false=>
   simp[bz,-hO,-kd,-mR,-eL];refine aq.not ?_;rw[s];simp[bz,-hO,-kd,-mR,-eL,-List.drop_succ_cons];refine wp_mono (λ_ l aa e=>?_) (zX a q (ie:=ie) (co:=co) (i:=i) f h d (c:=true) (by simp) (λe=>by cases e) (by simp));simpa [h6,t]using e
 | true=>
   cases e:b.isEmpty with
   | true=>
     simp[d,iP,e,bz,-hO,-kd,-mR,-eL];refine aq.not ?_;rw[s];simp[bz,-hO,-kd,-mR,-eL,-List.drop_succ_cons];refine wp_mono (λ_ l aa g=>?_) (zX a q (ie:=ie) (co:=co) (i:=i) f h d (c:=false) (by simp) (λ_=>.inl e) (by simp));simpa [h6,t,e]using g
   | false=>
     simp[d,iP,e, -hO,-kd,-mR,-eL];refine aq.of (uJ a k.h (l:=b) (by omega)) ?_;rintro r _ ⟨o,rfl⟩;rw[s];simp[-hO,-kd,-mR,-eL,-List.drop_succ_cons];refine wp_mono (λ_ l aa g=>?_) (zX a (q.trans o) (ie:=ie) (co:=co) (i:=i) f h (o.some k.h d) (c:=!isNum b) (by simp) (λg=>.inr (by simpa using g)) (by simp));simpa [h6,t,e]using g
end Go.Dam.C
namespace Go.Dam.C
open Go Go.Dam
def dq.ok(c:dq):Prop:=c.v.length<=10000
def bQ.ok(r:bQ):Prop:=r.rhs.length<=10000/\r.j.length<=1000000/\∀c∈r.j,c.ok
def hH(n:Int):Int->List dq->Bool
 | _,[]=>true
 | last,c::l=>isNum c.v&&(c.v != [48]&&(decide (last<c.af)&&(decide (c.af<n)&&hH n c.af l)))
def kq(r:bQ)(n:Int):Bool:=hH n (-1) r.j&&(isNum r.rhs&&(r.kp.isEmpty&&(decide (1<=r.kind)&&decide (r.kind<=3))))
variable{X:ar}{pm:Perm}{H aa bL:ad}
theorem K.next(k:K pm H aa):H.next<=aa.next:=aF.next k
theorem ic(g:bs pm H)(x y:bk) (a:∀o,x≠.cr o:=by simp):K pm H ((H.new x).put H.next y):=aF.put (K.new g x) (bg _) b4 a y
theorem xh{α:Type}{l:List α}{k:Nat}(h:k<l.length):l.drop k=l[k]::l.drop (k+1):=List.drop_eq_getElem_cons h
theorem Sq(i:iO X){aj:ad}(c:K pm aj H){r:bQ}{bP:Value}(j:r.rhs.length<=10000){b:Nat}{z:cz}(AW:H.get b=some (.cells (r.cells bP) z)){L:bb}(a:aK 2 L=some (.pointer (some ⟨b,0,none⟩))):
 wp X pm (.code so) L H [] (rp [.slot 4] λq aa=>K pm aj aa/\q=.bool (isNum r.rhs&&(r.kp.isEmpty&&(decide (1<=r.kind)&&decide (r.kind<=3))))):=by
 obtain⟨_,f,_,g,k⟩:=r;simp[a,AW,bQ.cells,-eL];refine aq.of (uJ i c.h (l:=g) (by simp at j;omega)) ?_;rintro _ _ ⟨h,rfl⟩;have d:=h.some c.h AW;have b:=c.trans h;cases m:isNum g
 ·simp[ bz];exact b
 ·cases e:k.isEmpty
  ·simp[a,d,bQ.cells,iP, e,bz];exact b
  ·by_cases c:(1:Int)<=f
   ·simp[a,d,bQ.cells,iP, e,c,Int.not_lt.2 c,];exact⟨b,by by_cases g:f<=3<;>simp[g]<;>omega⟩
   ·simp[a,d,bQ.cells,iP, e,c,Int.not_le.1 c,bz];exact b
theorem Su(t:iO X)(g:bs pm H){r:bQ}{bP:Value}{n:Nat}(G:r.ok)(I:gB H bP r.j):
 Call X pm F.oh [.agg (r.cells bP).toArray,.int .i64 (n:Int)] H λq aa=>K pm H aa/\q=.bool (kq r n):=by
 refine Call.kK t.oh rfl ?_;obtain⟨J,_,M⟩:=G;obtain⟨d,e,rfl,N⟩:=I.at;obtain⟨j,u⟩:∃j,j=H.new (.cells (r.cells (.slice d r.j.length e)) (.t T.Cd)):=⟨_,rfl⟩;have O:K pm H j:=by rw[u];exact K.new g _
 have v:j.get H.next=some (.cells (r.cells (.slice d r.j.length e)) (.t T.Cd)):=by rw[u];exact b4
 obtain⟨f,A⟩:∃f,f=H.next:=⟨_,rfl⟩;rw[<-A]at v;simp[g.pick,g.make,ptr,<-u,<-A,v,-so,-xT,-eL];simp[bQ.cells,-so,-xT,-eL]
 refine eE (σ:=Int) r.j.length (λk a=>[(1,.int .i64 (n:Int)),(2,.pointer (some ⟨f,0,none⟩)),(9,.slice d r.j.length e),(5,.int .i64 a)])
  (λk a aa=>K pm H aa/\aa.get f=some (.cells (r.cells (.slice d r.j.length e)) (.t T.Cd))/\hH n a (r.j.drop k)=hH n (-1) r.j) (-1) (by simp) ⟨O,v,rfl⟩ ?_ ?_
 ·rintro k a h i ⟨w,F,m⟩;obtain⟨L,_,P,_,_,rfl,Q,R,S,c,B,rfl⟩:=N k i;rw[xh i]at m;have j:r.j[k]=c:=by rw[eu i]at B;exact jF B
  rw[j]at m;have U:c.ok:=M c (j▸x7 i);have x:=w.some g Q;have b:=w.h;obtain⟨o,y⟩:∃o,o=(h.new (.cells [.int .i64 0,.string ⟨#[]⟩] (.t T.xS))).put h.next (.cells [.int .i64 c.af,aA c.v] (.t T.xS)):=⟨_,rfl⟩;have p:K pm h o:=by rw[y];exact ic b _ _
  have C:o.get h.next=some (.cells [.int .i64 c.af,aA c.v] (.t T.xS)):=by rw[y];exact b1
  have j:(h.new (.cells [.int .i64 0,.string ⟨#[]⟩] (.t T.xS))).get L=some P:=by rw[qk (b.lt x)];exact x
  simp[i,x,R,S,dq.cells,b.pick,b.make,b.may (bg _),ptr,bB,<-y,C];refine aq.of (uJ t p.h (l:=c.v) (by have:=U;unfold dq.ok at this;omega)) ?_;rintro _ V ⟨z,rfl⟩;have q:=z.some p.h C;have D:=w.trans (p.trans z);have W:=(p.trans z).some b F;have s:hH n a (c::r.j.drop (k+1))=false->K pm H V/\kq r n=false:=λb=>⟨D,by simp[kq,<-m,b]⟩;cases E:isNum c.v
  ·simp[bz];refine s ?_;simp[hH,E]
  ·by_cases b:c.v=[48]
   ·simp[b,q,iP,bz];refine s ?_;simp[hH, b]
   ·have g:(c.v==[48])=false:=by simpa using b
    by_cases b:a<c.af
    ·by_cases h:c.af<n
     ·simp[g,b,h,q,iP,];refine⟨D,W,?_⟩;simpa [hH,bne,E,g,b,h]using m
     ·simp[g,b,h,q,iP,];refine s ?_;simp[hH,h]
    ·simp[g,b,q,iP,bz];refine s ?_;simp[hH,b]
 ·rintro a _ ⟨c,g,b⟩;simp[-so,-eL];have:=Sq t c (r:=r) J g (L:=(12,.bool false)::(11,.int .i64 (r.j.length:Int))::(10,.int .i64 (r.j.length:Int))::[(1,.int .i64 (n:Int)),(2,.pointer (some ⟨f,0,none⟩)),(9,.slice d r.j.length e),(5,.int .i64 a)]) (by simp);refine wp_mono (λ_ l aa h=>?_) this;rw[List.drop_length]at b;simpa [kq,<-b,hH]using h
end Go.Dam.C
namespace Go.Dam.C
open Go Go.Dam
variable{X:ar}{pm:Perm}{H aa bL aj:ad}{n:Nat}
theorem Sw:C.oB=C.nm:=rfl
theorem FO{d:Nat}(j:Has X d C.nm)(g:bs pm H){v:Value}{m:Nat}{R:Nat->List Value->Prop}(l:c8 H v m 5 R)(s:m<=1000000){f:FuncId}{cx cs:Array Value}(Q:Nat->Bool)
 (n:∀i aa c,i<m->R i c->K pm H aa->Call X pm f (.agg c.toArray::cs.toList) aa λr bL=>K pm aa bL/\r=.bool (Q i)):
 Call X pm d [v,.func (.func f) cx cs] H λr aa=>K pm H aa/\∃z:Int,r=.int .i64 z/\(0<=z↔∃i,i<m/\Q i=true):=by
 refine Call.kK j rfl ?_;obtain⟨o,p,rfl,q⟩:=l.at;simp[-C8,-sS,-eL];refine eE (σ:=Unit) m (λk _=>[(0,.slice o m p),(1,.func (.func f) cx cs)]) (λk _ aa=>K pm H aa/\∀i,i<k->Q i=false) () (by simp) ⟨K.refl g,by simp⟩ ?_ ?_
 ·rintro k _ m a ⟨b,r⟩;obtain⟨_,_,_,_,c,rfl,d,j,l,o⟩:=q k a;simp[a,b.some g d,j,l,bB,-sS,-eL];refine q7.of (g:=f) (cx:=cx) (cs:=cs) (az:=[.agg c.toArray]) (by simp) (by simp) (by simp) (n k m c a o b) ?_;rintro _ _ ⟨e,rfl⟩;cases h:Q k
  ·simp[-sS,-eL];refine⟨b.trans e,λi _=>?_⟩;by_cases c:i=k
   ·exact c▸h
   ·exact r i (by omega)
  ·simp[-sS];exact⟨b.trans e,k,a,h⟩
 ·rintro _ _ ⟨a,b⟩;simp;exact⟨a,λi a=>b i a⟩
theorem Ms(a:iO X)(g:bs pm H){v:Value}{m:Nat}{R:Nat->List Value->Prop}(d:c8 H v m 5 R)(e:m<=1000000){f:FuncId}{cx cs:Array Value}(Q:Nat->Bool)
 (h:∀i aa c,i<m->R i c->K pm H aa->Call X pm f (.agg c.toArray::cs.toList) aa λr bL=>K pm aa bL/\r=.bool (Q i)) {t:Bool} (j:t=true↔∃i,i<m/\Q i=true):
 Call X pm F.oA [v,.func (.func f) cx cs] H λr aa=>K pm H aa/\r=.bool t:=by
 refine Call.kK a.oA rfl ?_;simp;refine aq.of (az:=[v,.func (.func f) cx cs]) (FO a.nm g d e Q h) ?_;rintro _ _ ⟨k,_,rfl,b⟩;rw[<-j]at b;simp;refine⟨k,?_⟩;cases t<;>simp at b|-<;>omega
theorem Mv(a:iO X)(g:bs pm H){v:Value}{m:Nat}{R:Nat->List Value->Prop}(d:c8 H v m 5 R)(e:m<=1000000){f:FuncId}{cx cs:Array Value}(Q:Nat->Bool)
 (h:∀i aa c,i<m->R i c->K pm H aa->Call X pm f (.agg c.toArray::cs.toList) aa λr bL=>K pm aa bL/\r=.bool (Q i)) {t:Bool} (j:t=true↔∃i,i<m/\Q i=true):
 Call X pm F.l3 [v,.func (.func f) cx cs] H λr aa=>K pm H aa/\r=.bool t:=by
 refine Call.kK a.l3 rfl ?_;simp;refine aq.of (az:=[v,.func (.func f) cx cs]) (FO (Sw▸a.oB) g d e Q h) ?_;rintro _ _ ⟨k,_,rfl,b⟩;rw[<-j]at b;simp;refine⟨k,?_⟩;cases t<;>simp at b|-<;>omega
def aI.I(ab:aI):Bool:=!(decide (100<ab.a.length)||decide (440<ab.rows.length))&&(ab.a.all h6&&ab.rows.all λr=>kq r ab.a.length)
structure aI.ok(ab:aI):Prop where
 c:ab.a.length<=20
 r:ab.rows.length<=40
 cs:∀c∈ab.a,c.ok
 rs:∀r∈ab.rows,r.ok
theorem zf(b:iO X)(g:bs pm H){v:Value}{ab:aI}(g':iL H v ab)(m:ab.ok):Call X pm F.i' [v] H λr aa=>K pm H aa/\r=.bool ab.I:=by
 refine Call.kK b.i' rfl ?_;obtain⟨_,_,rfl,d,y⟩:=g';obtain⟨q,s,rfl,_⟩:=d.at;obtain⟨u,v,rfl,_⟩:=y.at;have I:=m.c;have I:=m.r;obtain⟨n,w⟩:∃n,n=H.new (.cells [.slice q ab.a.length s,.slice u ab.rows.length v] (.t T.JU)):=⟨_,rfl⟩;have e:K pm H n:=by rw[w];exact K.new g _
 have k:n.get H.next=some (.cells [.slice q ab.a.length s,.slice u ab.rows.length v] (.t T.JU)):=by rw[w];exact b4
 obtain⟨o,z⟩:∃o,o=H.next:=⟨_,rfl⟩;rw[<-z]at k;simp[g.pick,g.make,ptr,<-w,<-z,k,-uM,-eL];by_cases l:100<ab.a.length
 ·simp[l,bz, -uM];exact⟨e,by simp[aI.I,l]⟩
 by_cases p:440<ab.rows.length
 ·simp[l,p,k,-uM];exact⟨e,by simp[aI.I,p]⟩
 have D:∀c∈ab.a,c.ok:=m.cs;have E:∀c∈ab.rows,c.ok:=m.rs;simp[l,p,k,-B6,-eL];refine aq.of (eA:=by simp;rfl) (az:=[.slice q ab.a.length s,.func (.func F.oe) #[] #[]]) (Ms b e.h (d.ext (e.ext g)) (by omega) (f:=F.oe) (cs:=#[]) (λi=>!((ab.a[i]?.map h6).getD true)) ?_ (t:=!ab.a.all h6) ?_) ?_
 ·rintro i x cs _ ⟨c,f,rfl⟩ h;refine Call.kK b.oe rfl ?_;have g:=K.new h.h (.cells c.cells (.t T.B5));have m:(x.new (.cells c.cells (.t T.B5))).get x.next=some (.cells c.cells (.t T.B5)):=b4;simp[h.h.pick,h.h.make,ptr,bx,bB,show c.cells.length=5 from rfl];refine aq.of (eA:=by simp[show c.cells.take 5=c.cells from rfl]) (az:=[.agg c.cells.toArray]) (NB b g.h (D c (eB f))) ?_;rintro _ A ⟨a,rfl⟩;simp[f];exact g.trans a
 ·rw[iq,VW,Ne,eD];constructor
  ·intro f;simp only[Classical.not_forall]at f;obtain⟨c,d,g⟩:=f;obtain⟨i,f⟩:=CG d;exact⟨i,(je.1 f).1,by simp[f,g]⟩
  ·rintro⟨i,f,g⟩ m;have:=m ab.a[i] (x7 f);simp[eu f,this]at g
 rintro _ x ⟨h,rfl⟩;have j:=e.trans h;have B:=h.some e.h k;cases C:ab.a.all h6
 ·simp[bz];refine aq.not ?_;simp[bz];exact⟨j,by simp[aI.I,C]⟩
 simp[B];refine aq.of (az:=[.slice u ab.rows.length v,.func (.func F.mP) #[] #[.pointer (some ⟨o,0,none⟩)]]) (Mv b j.h (y.ext (j.ext g)) (by omega) (f:=F.mP) (cs:=#[.pointer (some ⟨o,0,none⟩)]) (λi=>!((ab.rows[i]?.map λr=>kq r ab.a.length).getD true)) ?_ (t:=!ab.rows.all λr=>kq r ab.a.length) ?_) ?_
 ·rintro i A cs _ ⟨r,f,t,rfl,F⟩ a;refine Call.kK b.mP rfl ?_;have g:=K.new a.h (.cells (r.cells f) (.t T.RP));have G:=(a.trans g).some j.h B;simp[a.h.pick,a.h.make,ptr,bx,bB,show(r.cells f).length=5 from rfl,G];refine aq.of (eA:=by simp[show(r.cells f).take 5=r.cells f from rfl]) (az:=[.agg (r.cells f).toArray,.int .i64 (ab.a.length:Int)]) (Su b g.h (E r (eB t)) (F.ext ((a.trans g).ext j.h))) ?_;rintro _ _ ⟨H,rfl⟩;simp[t];exact g.trans H
 ·rw[iq,VW,Ne,eD];constructor
  ·intro h;simp only[Classical.not_forall]at h;obtain⟨c,d,c⟩:=h;obtain⟨i,b⟩:=CG d;exact⟨i,(je.1 b).1,by simp[b,c]⟩
  ·rintro⟨i,b,c⟩ h;have:=h ab.rows[i] (x7 b);simp[eu b,this]at c
 rintro _ A ⟨a,rfl⟩;simp;exact⟨j.trans a,by simp[aI.I,C,l,p]⟩
structure pZ(H:ad)(v:Value)(m:Nat)(P:Nat->Value->Prop):Prop where
 ex:∃base cap,v=.slice base m cap/\∀i,i<m->∃b off y row u,base=some ⟨b,off,none⟩/\H.get b=some y/\rowOf y=some row/\row[off+i]? = some u/\P i u
theorem pZ.imp{v:Value}{m:Nat}{P a:Nat->Value->Prop}(h:pZ H v m P)(AW:Ext H aa)(b:∀i u,i<m->P i u->a i u):pZ aa v m a:=by
 obtain⟨a,c,d,e⟩:=h.ex;exact⟨a,c,d,λi a=>by
  obtain⟨c,d,y,f,u,g,h,j,k,l⟩:=e i a;exact⟨c,d,y,f,u,g,AW _ _ h,j,k,b _ _ a l⟩⟩
def iN(H:ad)(v:Value)(l:List (List UInt8)):Prop:=pZ H v l.length λi u=>∃s,l[i]? = some s/\u=aA s
def mm(H:ad)(v:Value)(m:Nat)(x:Nat->Rat):Prop:=pZ H v m λi u=>b9 H u (x i)
theorem iN.ext{v:Value}{l:List (List UInt8)}(h:iN H v l)(AW:Ext H aa):iN aa v l:=pZ.imp h AW λ_ _ _=>id
theorem b9.ext{v:Value}{q:Rat}(h:b9 H v q)(AW:Ext H aa):b9 aa v q:=let ⟨b,a,c⟩:=h;⟨b,a,AW _ _ c⟩
theorem mm.ext{v:Value}{m:Nat}{x:Nat->Rat}(h:mm H v m x)(AW:Ext H aa):mm aa v m x:=pZ.imp h AW λ_ _ _ h=>h.ext AW
def lg(H:ad)(v:Value)(w i:Nat)(bN:List Value):Option Nat->Prop
 | none=>i=0/\bN=[]/\v=.slice none 0 0
 | some c=>v=.slice (some ⟨c,0,none⟩) i i/\bN.length=i*w/\H.get c=some (.cells bN (.n w))
theorem lg.len{v:Value}{w i:Nat}{bN:List Value}{o:Option Nat}(g:lg H v w i bN o):bN.length=i*w:=by
 cases o with
 | none=>obtain⟨rfl,rfl,_⟩:=g;simp
 | some _=>exact g.2.1
theorem lg.ext{v:Value}{w i:Nat}{bN:List Value}{o:Option Nat}(g:lg H v w i bN o)(h:∀c y,o=some c->H.get c=some y->aa.get c=some y):lg aa v w i bN o:=by
 cases o with
 | none=>exact g
 | some c=>exact⟨g.1,g.2.1,h c _ rfl g.2.2⟩
@[simp] theorem Uv(v:Value):bx [v] 0 1=some [v]:=rfl
theorem HN(l:List Value):bx l 0 l.length=some l:=by simp[bx]
theorem zy(g:bs pm H){v:Value}{w i cc:Nat}{bN xs:List Value}{o:Option Nat}(e:lg H v w i bN o)(f:xs.all c6=true)(j:xs.length=w)(k:1<=w)(aJ:i<1000000)(p:cc<=200)(d:n<=H.next)(q:∀c,o=some c->n<=c/\pm.may c=true):
 ∃aa,(eN w cc v xs 1).run pm H=some (.slice (some ⟨H.next,0,none⟩) (i+1) (i+1),aa)/\lg aa (.slice (some ⟨H.next,0,none⟩) (i+1) (i+1)) w (i+1) (bN++xs) (some H.next)/\aF pm n H aa/\aa.next=H.next+1/\
  ∀b,b<H.next->o≠some b->aa.get b=H.get b:=by
 have a:(i+1)*cc<=17179869184:=aY (lX _ p) (by omega)
 cases o with
 | none=>
   obtain⟨rfl,rfl,rfl⟩:=e;refine⟨H.new (.cells xs (.n w)),?_,⟨rfl,by simp[j],b4⟩,aF.new (.refl g) d _,rfl,λb a _=>qk a⟩;unfold eN;simp at a;simp only[f];simp[g.make,g.pick,show cc<=17179869184 by omega,k]
 | some c=>
   obtain⟨rfl,l,m⟩:=e;obtain⟨n,o⟩:=q c rfl;have r:bx bN 0 (i*w)=some bN:=by rw[<-l];exact HN bN
   refine⟨(H.put c .dead).new (.cells (bN++xs) (.n w)),?_,⟨rfl,by simp[l,j,hS],b4⟩,aF.new (aF.put (.refl g) n m (by simp) .dead) d _,rfl,λb a d=>by rw[qk (show b<(H.put c .dead).next from a),a7 (h:=λe=>d (by rw[e]))]⟩;unfold eN;simp only[f];simp[g.make,g.pick,a,m,r,o,k,show ¬(i+1<=i) by omega,show i+1<=17179869184 by omega]
def h1(pm:Perm)(n:Nat)(H:ad)(v:Value)(i:Nat)(x:Nat->Rat):Prop:=∃a o,lg H v 1 i a o/\(∀c,o=some c->n<=c/\pm.may c=true)/\∀j,j<i->∃p,a[j]? = some p/\b9 H p (x j)
theorem h1.nil{x:Nat->Rat}:h1 pm n H (.slice none 0 0) 0 x:=⟨[],none,⟨rfl,rfl,rfl⟩,by simp,by simp⟩
theorem h1.row{v:Value}{i:Nat}{x:Nat->Rat}(h:h1 pm n H v i x):mm H v i x:=by
 obtain⟨b,o,a,_,c⟩:=h
 cases o with
 | none=>
   obtain⟨rfl,_,rfl⟩:=a;exact⟨none,0,rfl,λi d=>absurd d (hz _)⟩
 | some d=>
   obtain⟨rfl,_,e⟩:=a;refine⟨_,_,rfl,λj a=>?_⟩;obtain⟨p,f,g⟩:=c j a;exact⟨d,0,_,b,p,rfl,e,rfl,by simpa using f,g⟩
theorem h1.k{v:Value}{i:Nat}{x:Nat->Rat}(h:h1 pm n H v i x)(g:bs pm H)(k:K pm H aa):h1 pm n aa v i x:=by
 obtain⟨a,o,b,c,d⟩:=h;exact⟨a,o,b.ext λ_ _ _ e=>k.some g e,c,λj a=>(d j a).imp λ_ q=>⟨q.1,q.2.up k⟩⟩
theorem h1.app{v:Value}{i cc:Nat}{x:Nat->Rat}(h:h1 pm n H v i x)(g:bs pm H){p:Value}{q:Rat}(b:b9 H p q)(aJ:i<1000000)(f:cc<=200)(k:n<=H.next):
 ∃aa,(eN 1 cc v [p] 1).run pm (H.new (.cells [p] (.n 1)))=some (.slice (some ⟨H.next+1,0,none⟩) (i+1) (i+1),aa)/\h1 pm n aa (.slice (some ⟨H.next+1,0,none⟩) (i+1) (i+1)) (i+1) (λj=>if j=i then q else x j)/\aF pm n H aa:=by
 obtain⟨_,_,c,l,m⟩:=h;have a:=K.new g (.cells [p] (.n 1));obtain⟨d,rfl,_⟩:=id b;obtain⟨aa,o,r,s,_,_⟩:=zy a.h (cc:=cc) (n:=n) (c.ext λt _ _ e=>a.some g e) (xs:=[.pointer (some ⟨d,0,none⟩)]) rfl rfl (bg _) aJ f (by show n<=H.next+1;omega) l;have u:=(a.mono k).trans s;refine⟨aa,o,⟨_,_,r,λt w=>?_,λj _=>?_⟩,u⟩
 ·cases w;exact⟨by show n<=H.next+1;omega,g.may (by show H.next<=H.next+1;omega)⟩
 ·have g:=c.len;by_cases e:j=i
  ·subst e;refine⟨.pointer (some ⟨d,0,none⟩),?_,by simpa using b.up u⟩;rw[hR (by omega)];simp[g]
  ·obtain⟨r,a,b⟩:=m j (by omega);exact⟨r,by rw[hi (by omega)];exact a,by simpa [e]using b.up u⟩
def fY(l:List (List UInt8))(i:Nat):Rat:=rd (l.getD i [])
theorem QM(f:iO X)(g:bs pm H){v:Value}{l:List (List UInt8)}{d:Int}(p:iN H v l)(g':l.length<1000000)(t:∀s∈l,s.length<1000000):
 Call X pm F.ke [v,.int .i64 d] H λr aa=>K pm H aa/\(l.all isNum=false/\r=.tuple #[.slice none 0 0,.bool false]∨l.all isNum=true/\∃u,r=.tuple #[u,.bool (decide ((l.length:Int)=d))]/\mm aa u l.length (fY l)):=by
 refine Call.kK f.ke rfl ?_;obtain⟨i,j,rfl,w⟩:=p.ex;simp[-Cc,-sn,-eL]
 refine eE (σ:=Value) l.length (λk u=>[(0,.slice i l.length j),(1,.int .i64 d),(6,u),(11,.slice i l.length j)])
  (λk u aa=>K pm H aa/\(l.take k).all isNum=true/\h1 pm H.next aa u k (fY l)) (.slice none 0 0) (by simp) ⟨K.refl g,by simp,h1.nil⟩ ?_ ?_
 ·rintro k u _ m ⟨c,n,r⟩;obtain⟨_,_,_,_,_,rfl,v,x,y,s,e,rfl⟩:=w k m;have i:=t s (eB e);have z:l.take (k+1)=l.take k++[s]:=by rw[List.take_add_one,e];rfl
  have u:fY l k=rd s:=by simp[fY,List.getD,e]
  simp[m,c.some g v,x,y,-sn,-eL];refine aq.of (az:=[aA s]) (vX f.tozg c.h i) ?_;rintro _ _ ⟨a,⟨h,rfl⟩ | ⟨q,_,h,rfl,o⟩⟩
  ·simp[-sn];refine⟨c.trans a,.inl ⟨s,eB e,by simp[isNum,h]⟩⟩
  ·obtain⟨_,s,g,A⟩:=(r.k c.h a).app (cc:=8) a.h o (by omega) (by omega) (c.trans a).next;have B:fY l k=q:=by rw[u];simp[rd,h]
   have C:(λj=>if j=k then q else fY l j)=fY l:=by
    funext j;by_cases l:j=k
    ·subst l;simp[B]
    ·simp[l]
   rw[C]at g;obtain⟨_,rfl,_⟩:=id o;simp[a.h.pick,a.h.make,fill,setCells,s,-sn,-eL];rw[eD]at n;refine⟨aF.trans (c.trans a) A,λD b=>?_,g⟩;rw[z,l2]at b
   rcases b with b | b
   ·exact n D b
   ·simp at b;subst b;simp[isNum,h]
 ·rintro u _ ⟨b,a,c⟩;rw[V5]at a;simp;refine⟨b,.inr ⟨by simpa using a,u,⟨rfl,?_⟩,c.row⟩⟩;by_cases h:(l.length:Int)=d<;>simp[h]
def hI:List dq->(Nat->Rat)->Rat
 | [],_=>0
 | c::l,x=>hI l x+rd c.v*x c.af.toNat
def VQ(a c:Int):Bool:=if a=1 then decide (c<=0) else if a=3 then decide (0<=c) else decide (c=0)
theorem Yr(e:iO X){a c:Int}:Call X pm F.px [.int .i64 a,.int .i64 c] H λr aa=>aa=H/\r=.bool (VQ a c):=by
 refine Call.kK e.px rfl ?_;by_cases b:a=1
 ·subst b;simp[VQ,<-Int.not_lt]
 ·by_cases d:a=3
  ·subst d;simp[VQ,<-Int.not_lt]
  ·have e:(a==1)=false:=by simpa using b
   have f:(a==3)=false:=by simpa using d
   simp[e,f,VQ,b,d];by_cases h:c=0<;>simp[h]
theorem N6(l:List dq)(c:dq)(x:Nat->Rat):hI (l++[c]) x=hI l x+rd c.v*x c.af.toNat:=by
 induction l with
 | nil=>simp[hI]
 | cons _ l ih=>simp only[kl,hI,ih];grind
theorem N7{l:List dq}{x:Nat->Rat}{t:Nat}(g':∀c∈l,c.ok/\aS (x c.af.toNat) t):aS (hI l x) (l.length*(t+10001)+1):=by
 induction l with
 | nil=>exact pR (by simp)
 | cons c l ih=>
   obtain⟨a,b⟩:=g' c (.head _);refine en (s0 (ih λd e=>g' d (.tail _ e)) (kt (jg (k:=10000) a) b)) ?_;simp only[gu,hS];omega
structure LZ(l:List dq)(n:Nat):Prop where
 len:l.length<=1000
 all:∀c∈l,c.ok/\isNum c.v=true/\0<=c.af/\c.af<n
theorem YQ(f:iO X)(g:bs pm H){v w:Value}{l:List dq}{x:Nat->Rat}{t:Nat}(L:gB H v l)(M:mm H w n x)(s:LZ l n)(N:t<=20000)(z:∀i,i<n->aS (x i) t):
 Call X pm F.py [v,w] H λr aa=>K pm H aa/\b9 aa r (hI l x):=by
 refine Call.kK f.py rfl ?_;have g':=s.len;obtain⟨O,P,rfl,Q⟩:=L.at;obtain⟨R,S,rfl,U⟩:=M.ex;have V:∀k,aS (hI (l.take k) x) 31000000:=λk=>by
  refine en (N7 (t:=t) λc a=>?_) ?_
  ·obtain⟨b,_,_,_⟩:=s.all c (sH a);exact⟨b,z _ (by omega)⟩
  ·have a:(l.take k).length<=1000:=aY (List.take_sublist _ _).length_le g';have b:t+10001<=30001:=by omega
   have c:(l.take k).length*(t+10001)<=30001000:=aY (gK a b) (by decide);exact aY (Cz c) (by decide)
 simp[-Wv,-Wu,-eL];refine aq.of (az:=[.int .i64 0]) (o0 f.tozg g (n:=0) (by omega) (by omega)) ?_;rintro L _ ⟨M,W⟩;simp[-Wv,-Wu,-eL]
 refine eE (σ:=Value) l.length (λk u=>[(1,.slice R n S),(5,u),(9,.slice O l.length P)])
  (λk u aa=>K pm H aa/\b9 aa u (hI (l.take k) x)) L (by simp) ⟨M,by simpa [hI]using W⟩ ?_ ?_
 ·rintro k u h A ⟨i,X⟩;obtain⟨Y,_,Z,_,_,rfl,e2,e3,e4,c,B,rfl⟩:=Q k A;obtain⟨r,h2,_,_⟩:=s.all c (eB B);have p:c.af.toNat<n:=by omega
  obtain⟨_,_,_,_,C,rfl,t,v,D,E⟩:=U _ p;obtain⟨j,hj⟩:∃j:Nat,c.af=(j:Int):=⟨c.af.toNat,by omega⟩;have F:c.af.toNat=j:=by omega
  rw[F]at p D E;have d:=i.h;have w:=i.some g e2;have aa:=i.some g t;obtain⟨e,y⟩:∃e,e=(h.new (.cells [.int .i64 0,.string ⟨#[]⟩] (.t T.Wt))).put h.next (.cells [.int .i64 c.af,aA c.v] (.t T.Wt)):=⟨_,rfl⟩;have m:K pm h e:=by rw[y];exact ic d _ _
  have G:e.get h.next=some (.cells [.int .i64 c.af,aA c.v] (.t T.Wt)):=by rw[y];exact b1
  have s:(h.new (.cells [.int .i64 0,.string ⟨#[]⟩] (.t T.Wt))).get Y=some Z:=by rw[qk (d.lt w)];exact w
  have a:=m.h;have H:=m.some d aa;simp[A,w,e3,e4,dq.cells,d.pick,d.make,d.may (bg _),ptr,bB,<-y];refine cy.of a.ah rfl ?_;have q:K pm e (e.up 12):=(K.refl a).up 12;have ab:=a.lt G;have ad:=a.lt H;simp[b7,a.none,a.J,G,hj,p,H,v,D];refine eM q.h (az:=[aA c.v]) (by simp[a.none]) rfl (λI n=>CX (g':=by have:=r;unfold dq.ok at this;omega) f n h2) ?_;rintro d e b f1;have h:=b.res a;simp;have ae:b9 e C (x j):=((E.ext (i.ext g)).up m).up (q.trans b);have J:=z j p;refine gS b.h (az:=[d,C]) (by simp[h]) rfl (λI n=>pY f.tozg n f1.of ae.of (CS r) (J.bw (aY N (by decide)))) ?_;rintro d _ o t;have e:=(K.trans b o).res a;simp;have af:aS (rd c.v*x j) 30000:=en (kt (jg (k:=10000) r) J) (by omega);refine gS o.h (az:=[u,d]) (by simp[e]) rfl (λI n=>q5 f.tozg n ((((X.up m).up q).up b).up o).of t.of ((V k).bw (by decide)) (af.bw (by decide))) ?_;rintro e f d v;have h:=(K.trans (K.trans b o) d).res a;have a:l.take (k+1)=l.take k++[c]:=by rw[List.take_add_one,B];rfl
  have c:b9 f e (hI (l.take (k+1)) x):=by rw[a,N6,F];exact v
  simp[h,cj,cd,ab,ad,jT,dM,xY];exact⟨i.trans (m.trans (q.trans (b.trans (o.trans d)))),c⟩
 ·rintro u _ ⟨b,a⟩;rw[V5]at a;simp;exact⟨b,a⟩
def aI.af(ab:aI)(i:Nat):dy:=ab.a.getD i ⟨[],[],[],[],false⟩
def a1(f:Nat->Rat):Nat->Rat
 | 0=>0
 | n+1=>a1 f n+f n
theorem vt{f:Nat->Rat}{t:Nat}:∀{n:Nat},(∀i,i<n->aS (f i) t)->aS (a1 f n) (n*(t+1)+1)
 | 0,_=>pR (by simp)
 | n+1,h=>by
   refine en (s0 (vt λi _=>h i (by omega)) (h n (by omega))) ?_;rw[hS];omega
def aI.rE(ab:aI)(x:Nat->Rat):Rat:=a1 (λi=>rd (ab.af i).cost*x i) ab.a.length
theorem aI.zW{ab:aI}{i:Nat}{c:dy}(h:ab.a[i]? = some c):ab.af i=c:=by simp[aI.af,List.getD,h]
theorem G1{c:dy}(h:h6 c=true):isNum c.cost=true:=by simp[h6]at h;exact h.1
theorem xy{ab:aI}(h:ab.I=true){c:dy}(a:c∈ab.a):h6 c=true:=by simp[aI.I]at h;exact h.2.1 c a
theorem BK{ab:aI}(h:ab.I=true){r:bQ}(a:r∈ab.rows):kq r ab.a.length=true:=by simp[aI.I]at h;exact h.2.2 r a
theorem R9{xs:List (List UInt8)}(h:∀s∈xs,s.length<=10000)(i:Nat):aS (fY xs i) 10000:=by
 unfold fY;rw[il]
 cases e:xs[i]? with
 | none=>exact jg (by simp)
 | some s=>exact jg (h s (eB e))
theorem NI(e:iO X)(g:bs pm H){v w:Value}{ab:aI}{x:Nat->Rat}{t:Nat}(y:iL H v ab)(q:ab.ok)(Z:ab.I=true)(hw:mm H w ab.a.length x)(ht:t<=20000)(D:∀i,i<ab.a.length->aS (x i) t):
 Call X pm F.mS [v,w] H λr aa=>K pm H aa/\b9 aa r (ab.rE x)/\aS (ab.rE x) 700000:=by
 refine Call.kK e.mS rfl ?_;obtain⟨_,E,rfl,hc,_⟩:=y;obtain⟨s,t,rfl,ad⟩:=hc.at;obtain⟨ae,af,rfl,ag⟩:=hw.ex;have y:=q.c;have G:∀i,i<ab.a.length->aS (rd (ab.af i).cost*x i) 30000:=λi y=>by
  have a:ab.a[i]? = some (ab.af i):=by rw[aI.af,il,eu y];rfl
  exact en (kt (jg (k:=10000) (q.cs _ (eB a)).2.2) (D i y)) (by omega)
 have I:∀k,k<=ab.a.length->aS (a1 (λi=>rd (ab.af i).cost*x i) k) 700000:=λk b=>
  en (vt λi y=>G i (by omega)) (by omega)
 obtain⟨m,z⟩:∃m,m=H.new (.cells [.slice s ab.a.length t,E] (.t T.JX)):=⟨_,rfl⟩;have A:K pm H m:=by rw[z];exact K.new g _
 have J:m.get H.next=some (.cells [.slice s ab.a.length t,E] (.t T.JX)):=by rw[z];exact b4
 obtain⟨B,L⟩:∃B,B=H.next:=⟨_,rfl⟩;rw[<-L]at J;simp[g.pick,g.make,ptr,<-z,<-L,-Cb,-xR,-eL];refine aq.of (az:=[.int .i64 0]) (o0 e.tozg A.h (n:=0) (by omega) (by omega)) ?_;rintro m H2 ⟨o,y⟩;simp[o.some A.h J,-xR,-Ca,-eL]
 refine eE (σ:=Value) ab.a.length (λk u=>[(1,.slice ae ab.a.length af),(5,u),(10,.slice s ab.a.length t)])
  (λk u aa=>K pm H aa/\b9 aa u (a1 (λi=>rd (ab.af i).cost*x i) k)) m (by simp) ⟨A.trans o,by simpa [a1]using y⟩ ?_ ?_
 ·rintro k u n b ⟨f,hu⟩;obtain⟨B,_,_,_,_,rfl,e2,e3,e4,F,H,rfl⟩:=ad k b;obtain⟨_,_,_,_,M,rfl,r,v,f4,f5⟩:=ag k b;have m:=eB H;have N:=G1 (xy Z m);have O:=(q.cs F m).2.2;have h:=f.h;have aa:=f.some g e2;have ab:=f.some g r;obtain⟨P,Q,R,w,S⟩:=F;simp only at O N;obtain⟨d,C⟩:∃d,d=(n.new (.cells [.string ⟨#[]⟩,.string ⟨#[]⟩,.string ⟨#[]⟩,.string ⟨#[]⟩,.bool false] (.t T.B'))).put n.next (.cells [aA P,aA Q,aA R,aA w,.bool S] (.t T.B')):=⟨_,rfl⟩;have i:K pm n d:=by rw[C];exact ic h _ _
  have U:d.get n.next=some (.cells [aA P,aA Q,aA R,aA w,.bool S] (.t T.B')):=by rw[C];exact b1
  have a:=i.h;have V:=i.some h ab;simp[b,aa,e3,e4,dy.cells,h.pick,h.make,h.may (bg _),ptr,bB,<-C];refine cy.of a.ah rfl ?_;have p:K pm d (d.up 11):=(K.refl a).up 11;have ah:=a.lt U;have ai:=a.lt V;simp[b7,a.none,a.J,U,b,V,v,f4];refine eM p.h (az:=[aA w]) (by simp[a.none]) rfl (λW j=>CX e j N) ?_;rintro d h c f1;have m:=c.res a;simp;have aj:b9 h M (x k):=((f5.ext (f.ext g)).up i).up (p.trans c);have ak:=D k b;refine gS c.h (az:=[d,M]) (by simp[m]) rfl (λW j=>pY e.tozg j f1.of aj.of (CS O) (ak.bw (aY ht (by decide)))) ?_;rintro d _ l r;have h:=(K.trans c l).res a;simp;have X:=aI.zW H;have Y:=G k b;rw[X]at Y;refine gS l.h (az:=[u,d]) (by simp[h]) rfl (λW j=>q5 e.tozg j ((((hu.up i).up p).up c).up l).of r.of ((I k (by omega)).bw (by decide)) (Y.bw (by decide))) ?_;rintro _ _ b v;have d:=(K.trans (K.trans c l) b).res a;simp[d,cj,cd,ah,ai,jT,dM,xY];refine⟨f.trans (i.trans (p.trans (c.trans (l.trans b)))),?_⟩;simp only[a1,X];exact v
 ·rintro u H2 ⟨o,a⟩;simp;exact⟨o,a,I _ (bg _)⟩
def sh(ab:aI)(xs:List (List UInt8))(m:Nat):Bool:=xs.all isNum&&(decide (xs.length=m)&&ab.I)
def oG(ab:aI)(xs:List (List UInt8)):Option Rat:=if sh ab xs ab.a.length=true then some (ab.rE (fY xs)) else none
def s8:Option Rat->Value
 | some q=>.tuple #[aA (cZ q),.bool true]
 | none=>.tuple #[aA [],.bool false]
structure o4(xs:List (List UInt8)):Prop where
 len:xs.length<1000000
 all:∀s∈xs,s.length<=10000
theorem o4.lt{xs:List (List UInt8)}(h:o4 xs):∀s∈xs,s.length<1000000:=λs a=>cV (h.all s a) (by decide)
theorem MK(b:iO X)(g:bs pm H){v w:Value}{ab:aI}{xs:List (List UInt8)}(q:iL H v ab)(s:ab.ok)(A:iN H w xs)(k:o4 xs):
 Call X pm F.mQ [v,w] H λr aa=>K pm H aa/\r=s8 (oG ab xs):=by
 refine Call.kK b.mQ rfl ?_;have u:=q;obtain⟨_,d,rfl,B,_⟩:=q;obtain⟨e,f,rfl,_⟩:=B.at;obtain⟨h,l⟩:∃h,h=H.new (.cells [.slice e ab.a.length f,d] (.t T.JV)):=⟨_,rfl⟩;have c:K pm H h:=by rw[l];exact K.new g _
 have AW:h.get H.next=some (.cells [.slice e ab.a.length f,d] (.t T.JV)):=by rw[l];exact b4
 obtain⟨h,x⟩:∃h,h=H.next:=⟨_,rfl⟩;rw[<-x]at AW;simp[g.pick,g.make,ptr,<-l,<-x,AW,-B8,-eL];refine aq.of (az:=[w,.int .i64 (ab.a.length:Int)]) (QM b c.h (A.ext (c.ext g)) k.len k.lt) ?_;rintro _ _ ⟨a,⟨m,rfl⟩ | ⟨m,C,rfl,y⟩⟩
 ·simp[bz];refine aq.not ?_;simp[bz];exact⟨c.trans a,by simp[oG,sh,m,s8]⟩
 have z:=a.some c.h AW;have n:=c.trans a;by_cases i:xs.length=ab.a.length
 ·simp[i,z,bx,bB,-B7];refine aq.of (az:=[.agg #[.slice e ab.a.length f,d]]) (zf b a.h (u.ext (n.ext g)) s) ?_;rintro _ _ ⟨j,rfl⟩;have o:=n.trans j;have v:=j.some a.h z;cases p:ab.I
  ·simp;exact⟨o,by simp[oG,sh,p,s8]⟩
  ·rw[i]at y;simp[v,bx,bB];refine aq.of (az:=[.agg #[.slice e ab.a.length f,d],C]) (NI b j.h (u.ext (o.ext g)) s p (y.ext (j.ext a.h)) (t:=10000) (by decide) λa _=>R9 k.all a) ?_;rintro a _ ⟨r,c,d⟩;simp;refine aq.of (az:=[a]) (tv b.tozg r.h c.of (d.bw (by decide))) ?_;rintro _ _ ⟨rfl,rfl⟩;simp;exact⟨o.trans r,by simp[oG,sh,p,m,i,s8]⟩
 ·have:¬((xs.length:Int)=(ab.a.length:Int)):=by omega
  simp[this,bz];refine aq.not (AW:=by simp) ?_;simp[bz];exact⟨n,by simp[oG,sh,i,s8]⟩
theorem Av{pm:Perm}{c:Nat}:∀{l:List Value},(∀a,.pointer (some a)∈l->a.block≠c)->du (ed pm l) [c]=true
 | [],_=>rfl
 | v::l,h=>by
   have ih:=Av (pm:=pm) (c:=c) (l:=l) λa b=>h a (.tail _ b)
   cases v with
   | pointer o=>
     cases o with
     | none=>exact ih
     | some a=>
       simp only[ed]
       cases pm.may a.block with
       | false=>exact ih
       | true=>
         simp only[cond_true,du,nc,b3];exact⟨by simp[h a (.head _)],ih⟩
   | _=>exact ih
theorem b9.ne{p:Value}{q:Rat}(h:b9 H p q){c:Nat}{cs:List Value}{z:cz}(d:H.get c=some (.cells cs z)):∀a,p=.pointer (some a)->a.block≠c:=by
 obtain⟨_,rfl,b⟩:=h;rintro a e rfl;cases e;rw[d]at b;cases b
theorem nO{p q:Value}{x y:Rat}(f:b9 H p x)(g:b9 H q y){c:Nat}{cs:List Value}{z:cz}(b:H.get c=some (.cells cs z))(m:Perm):du (ed m [p,q]) [c]=true:=Av λd a=>by
 rcases hk.1 a with e | a
 ·exact f.ne b d e.symm
 ·rcases hk.1 a with e | a
  ·exact g.ne b d e.symm
  ·cases a
theorem lz{p:Value}{x:Rat}(b:b9 H p x){c:Nat}{cs:List Value}{z:cz}(d:H.get c=some (.cells cs z))(m:Perm):du (ed m [p]) [c]=true:=Av λe a=>by
 rcases hk.1 a with c | a
 ·exact b.ne d e c.symm
 ·cases a
theorem zV{n:Nat}:∀{l:List dq} {last:Int},hH n last l=true->(∀c∈l,isNum c.v=true/\last<c.af/\c.af<n)/\(l≠[]->(l.length:Int)+last<n)
 | [],_,_=>⟨by simp,by simp⟩
 | c::l,last,h=>by
   simp only[hH,b3,df]at h;obtain⟨b,_,d,f,g⟩:=h;obtain⟨i,j⟩:=zV g;refine⟨λk a=>?_,λ_=>?_⟩
   ·rcases hk.1 a with rfl | a
    ·exact⟨b,d,f⟩
    ·obtain⟨b,_,c⟩:=i k a;exact⟨b,by omega,c⟩
   ·by_cases e:l=[]
    ·subst e;simp;omega
    ·have:=j e;simp only[gu];omega
theorem Kx{r:bQ}{n:Nat}(h:kq r n=true)(b:r.ok)(a:n<=20):LZ r.j n/\isNum r.rhs=true/\1<=r.kind/\r.kind<=3:=by
 simp only[kq,b3,df]at h;obtain⟨a,d,_,e,f⟩:=h;obtain⟨g,i⟩:=zV a;refine⟨⟨?_,λc a=>?_⟩,d,e,f⟩
 ·by_cases e:r.j=[]
  ·simp[e]
  ·have:=i e;omega
 ·obtain⟨d,_,e⟩:=g c a;exact⟨b.2.2 c a,d,by omega,e⟩
theorem Yp{l:List dq}{x:Nat->Rat}{t n:Nat}(a:LZ l n)(b:t<=20000)(b:∀i,i<n->aS (x i) t):aS (hI l x) 31000000:=by
 refine en (N7 (t:=t) λc d=>?_) ?_
 ·obtain⟨e,_,_,_⟩:=a.all c d;exact⟨e,b _ (by omega)⟩
 ·have b:t+10001<=30001:=by omega
  exact aY (Cz (aY (gK a.len b) (by decide:1000*30001<=30001000))) (by decide)
def OP(c:dy)(q:Rat):Bool:=!((!c.low.isEmpty&&decide (q<rd c.low))||(!c.up.isEmpty&&decide (rd c.up<q)))
def Vy(ab:aI)(x:Nat->Rat):Nat->Bool
 | 0=>true
 | k+1=>Vy ab x k&&OP (ab.af k) (x k)
def V6(x:Nat->Rat)(r:bQ):Bool:=VQ r.kind (lx (hI r.j x) (rd r.rhs))
def WQ(ab:aI)(x:Nat->Rat):Bool:=Vy ab x ab.a.length&&ab.rows.all (V6 x)
theorem Ym{ab:aI}{x:Nat->Rat}:∀{k:Nat},Vy ab x k=true↔∀i,i<k->OP (ab.af i) (x i)=true
 | 0=>by simp[Vy]
 | k+1=>by
   rw[Vy,b3,Ym];constructor
   ·rintro⟨a,b⟩ i _;by_cases e:i=k
    ·exact e▸b
    ·exact a i (by omega)
   ·intro h;exact⟨λi _=>h i (by omega),h k (by omega)⟩
theorem Y5(f:iO X)(g:bs pm H){r:bQ}{bP u:Value}{x:Nat->Rat}{t b:Nat}{z:cz}(v:r.ok)(M:n<=20)(N:kq r n=true)(l:gB H bP r.j)(w:mm H u n x)(O:H.get b=some (.cells [u] z))(y:t<=20000)(A:∀i,i<n->aS (x i) t):
 Call X pm F.qD [.agg (r.cells bP).toArray,.pointer (some ⟨b,0,none⟩)] H λq aa=>K pm H aa/\q=.bool (!V6 x r):=by
 refine Call.kK f.qD rfl ?_;obtain⟨o,z,P,Q⟩:=Kx N v M;have B:=Yp o y A;have C:=v.1;obtain⟨d,p⟩:∃d,d=H.new (.cells (r.cells bP) (.t T.Yz)):=⟨_,rfl⟩;have h:K pm H d:=by rw[p];exact K.new g _
 have k:d.get H.next=some (.cells (r.cells bP) (.t T.Yz)):=by rw[p];exact b4
 obtain⟨v,D⟩:∃v,v=H.next:=⟨_,rfl⟩;rw[<-D]at k;have a:=h.h;have E:=h.some g O;simp[g.pick,g.make,ptr,<-p,<-D,-eL];refine cy.of a.ah rfl ?_;have i:K pm d (d.up 13):=(K.refl a).up 13;have R:=a.lt k;have S:=a.lt E;obtain⟨_,U,G,I,_⟩:=r;simp only at C z P Q B o;simp[b7,a.none,a.J,k,E,bQ.cells];refine eM i.h (az:=[bP,u]) (by simp[a.none]) rfl (λs c=>YQ f c (l.ext ((h.trans i).ext g)) (w.ext ((h.trans i).ext g)) o y A) ?_;rintro V _ j W;have d:=j.res a;simp;refine eM j.h (az:=[aA I]) (by simp[d]) rfl (λs c=>CX f c z) ?_;rintro d _ e J;have t:=(K.trans j e).res a;simp;have L:=W.up e;refine eM e.h (az:=[V,d]) (by simp[t]) rfl (λs c=>jR c (q8 f.tozg c L.of J.of (B.bw (by decide)) (CS C))) ?_;rintro _ _ _ ⟨rfl,rfl⟩;simp;refine gS e.h (az:=[.int .i64 U,.int .i64 (lx (hI G x) (rd I))]) (by simp[t]) rfl (λs c=>jR c (Yr f)) ?_;rintro _ _ _ ⟨rfl,rfl⟩;have c:=(i.trans (K.trans j e)).some a k;have Y:=λm=>nO L J c m;have a:=l;obtain⟨Z,cp,rfl,_⟩:=l.at;obtain⟨ab,ad,rfl,_⟩:=w.ex;have hp:∀m,ed m [.slice Z G.length cp,.slice ab n ad]=[]:=λm=>rfl;simp[t,cj,cd,R,S,jT,dM,xY,Y,hp,V6];exact i.trans (K.trans j e) |> h.trans
theorem Nz(c:dy)(h:h6 c=true):(c.low.isEmpty=false->isNum c.low=true)/\(c.up.isEmpty=false->isNum c.up=true):=by
 simp[h6]at h;constructor
 ·intro e
  rcases h.2.1 with a | a
  ·simp[a]at e
  ·exact a
 ·intro e
  rcases h.2.2.1 with a | a
  ·simp[a]at e
  ·exact a
theorem Y6(i:iO X)(l:K pm aj H){c:dy}(P:h6 c=true)(R:c.ok){b d:Nat}{z S:cz}{J:Option Addr}{cap k:Nat}{x:Nat->Rat}(m:H.get b=some (.cells c.cells z))(s:H.get d=some (.cells [.slice J n cap] S))(S:mm H (.slice J n cap) n x)(t:k<n)(A:bw (x k)=true)
 {L:bb} (B:aK 5 L=some (.pointer (some ⟨d,0,none⟩))) (C:aK 7 L=some (.int .i64 (k:Int))) (n:aK 8 L=some (.pointer (some ⟨b,0,none⟩))) {Q:b5}
 (p:∀aN aa,K pm aj aa->K pm H aa->aK 61 aN=some (.bool (!OP c (x k)))->(∀j,j<32->aK j aN=aK j L)->wp X pm (.code yO) aN aa [] Q):wp X pm (.code Wq) L H [] Q:=by
 have g:=l.h;obtain⟨_,D,u,_,_⟩:=c;obtain⟨M,E,J⟩:=R;obtain⟨v,h⟩:=Nz _ P;simp only at M E J v h;obtain⟨_,_,T,U⟩:=S.ex;cases T;obtain⟨_,_,_,_,F,rfl,w,G,I,N⟩:=U k t;have e:K pm H (H.up 30):=(K.refl g).up 30;have q:=g.lt m;have y:=g.lt s;have z:=g.lt w;simp[-yO];refine cy.of g.ah rfl ?_;cases f:D.isEmpty
 ·have v:=v f;simp[b7,g.none,g.J,m,s,dy.cells,B,C,n,iP,f,t,w,G,I,-yO];refine eM e.h (az:=[aA D]) (by simp[g.none]) rfl (λH b=>CX i b v) ?_;rintro v _ d Q;have a:=d.res g;have L:=(N.up e).up d;simp[-yO];refine gS d.h (az:=[F,v]) (by simp[a]) rfl (λH b=>jR b (q8 i.tozg b L.of Q.of A (CS M))) ?_;rintro _ _ _ ⟨rfl,rfl⟩;have c:=e.trans d;have O:=c.some g m;have V:=c.some g s;have W:=c.some g w;by_cases o:x k<rd D
  ·simp[a,qa,o,bz,-yO];refine fL.not (by simp[a]) ?_;simp[bz,-yO];refine fL.not (by simp[a]) ?_;simp[a,bz,cj,cd,q,y,z,jT,dM,xY,-yO];refine p _ _ (l.trans c) c (by simp[OP,f,o]) λj _=>?_;simp[show ∀k,32<=k->j≠k from λk _=>by omega]
  ·cases k:u.isEmpty
   ·have h:=h k;simp[a,qa,o, dy.cells,O,V,t,W,G,I,iP,k,B,C,n,-yO];refine eM d.h (az:=[aA u]) (by simp[a]) rfl (λH b=>CX i b h) ?_;rintro v _ r X;have x:=(K.trans d r).res g;simp[-yO];refine gS r.h (az:=[F,v]) (by simp[x]) rfl (λH b=>jR b (q8 i.tozg b (L.up r).of X.of A (CS E))) ?_;rintro _ _ _ ⟨rfl,rfl⟩;simp[x, wI,cj,cd,q,y,z,jT,dM,xY,-yO];refine p _ _ (l.trans (c.trans r)) (c.trans r) (by simp[OP,f,k,o]) λj _=>?_;simp[show ∀b,32<=b->j≠b from λb _=>by omega]
   ·simp[a,qa,o,bz,dy.cells,O,iP,k,n,-yO];refine fL.not (by simp[a]) ?_;simp[bz,-yO];refine fL.not (by simp[a]) ?_;simp[a,bz,cj,cd,q,y,z,jT,dM,xY,-yO];refine p _ _ (l.trans c) c (by simp[OP,f,k,o]) λj _=>?_;simp[show ∀a,32<=a->j≠a from λa _=>by omega]
 ·simp[b7,g.none,g.J,m, dy.cells,  n,iP,f,-yO];refine fL.not (by simp[g.none]) ?_;simp[bz,-yO];refine fL.not (by simp[g.none]) ?_;cases a:u.isEmpty
  ·have h:=h a;simp[g.none,bz,m,s,dy.cells,t,w,G,I,iP,a,B,C,n,-yO];refine eM e.h (az:=[aA u]) (by simp[g.none]) rfl (λk c=>CX i c h) ?_;rintro h _ b o;have d:=b.res g;simp[-yO];refine gS b.h (az:=[F,h]) (by simp[d]) rfl (λk c=>jR c (q8 i.tozg c ((N.up e).up b).of o.of A (CS E))) ?_;rintro _ _ _ ⟨rfl,rfl⟩;simp[d, wI,cj,cd,q,y,z,jT,dM,xY,-yO];refine p _ _ (l.trans (e.trans b)) (e.trans b) (by simp[OP,f,a]) λj _=>?_;simp[show ∀i,32<=i->j≠i from λi _=>by omega]
  ·simp[g.none,bz,m,dy.cells,iP,a,n,-yO];refine fL.not (by simp[g.none]) ?_;simp[bz,-yO];refine fL.not (by simp[g.none]) ?_;simp[g.none,bz,cj,cd,q,   dM, -yO];refine p _ _ (l.trans e) e (by simp[OP,f,a]) λj _=>?_;simp[show ∀i,32<=i->j≠i from λi _=>by omega]
def VP(ab:aI)(xs:List (List UInt8)):Bool:=sh ab xs ab.a.length&&WQ ab (fY xs)
theorem aI.jv{ab:aI}{i:Nat}(h:i<ab.a.length):ab.a[i]? = some (ab.af i):=by rw[aI.af,il,eu h];rfl
theorem Yf{α:Type}{l:List α}{f:α->Bool}:((!l.all f)=true)↔∃i,i<l.length/\(!((l[i]?.map f).getD true))=true:=by
 rw[iq,VW,Ne,eD];constructor
 ·intro h;simp only[Classical.not_forall]at h;obtain⟨_,b,c⟩:=h;obtain⟨i,a⟩:=CG b;exact⟨i,(je.1 a).1,by simp[a,c]⟩
 ·rintro⟨i,a,b⟩ h;have:=h l[i] (x7 a);simp[eu a,this]at b
theorem Y7(j:iO X)(g:bs pm H){v w:Value}{ab:aI}{xs:List (List UInt8)}(N:iL H v ab)(m:ab.ok)(hw:iN H w xs)(D:o4 xs):
 Call X pm F.pw [v,w] H λr aa=>K pm H aa/\r=.bool (VP ab xs):=by
 refine Call.kK j.pw rfl ?_;have ae:=N;obtain⟨_,_,rfl,hc,O⟩:=N;obtain⟨n,o,rfl,af⟩:=hc.at;obtain⟨p,q,rfl,_⟩:=O.at;have hn:=m.c;have N:=m.r;obtain⟨s,E⟩:∃s,s=H.new (.cells [.slice n ab.a.length o,.slice p ab.rows.length q] (.t T.Xv)):=⟨_,rfl⟩;have A:K pm H s:=by rw[E];exact K.new g _
 have AW:s.get H.next=some (.cells [.slice n ab.a.length o,.slice p ab.rows.length q] (.t T.Xv)):=by rw[E];exact b4
 obtain⟨B,P⟩:∃B,B=H.next:=⟨_,rfl⟩;rw[<-P]at AW;simp[g.pick,g.make,ptr,<-E,<-P,AW,-Xy,-eL];refine aq.of (az:=[w,.int .i64 (ab.a.length:Int)]) (QM j A.h (hw.ext (A.ext g)) D.len D.lt) ?_;have Q:∀{b:ad} (u:Value),K pm s b->∃h,h=(b.new (.cells [.slice none 0 0] (.t T.V3))).put b.next (.cells [u] (.t T.V3))/\K pm H h/\h.get B=some (.cells [.slice n ab.a.length o,.slice p ab.rows.length q] (.t T.Xv))/\h.get b.next=some (.cells [u] (.t T.V3))/\K pm b h:=λ{b} u a=>by
  have d:=ic a.h (.cells [.slice none 0 0] (.t T.V3)) (.cells [u] (.t T.V3));exact⟨_,rfl,A.trans (a.trans d),(a.trans d).some A.h AW,b1,d⟩
 rintro _ b ⟨a,⟨y,rfl⟩ | ⟨y,u,rfl,R⟩⟩
 ·obtain⟨h,z,c,G,I,S⟩:=Q (.slice none 0 0) a;simp[bz,a.h.pick,a.h.make,ptr,a.h.may (bg _),<-z];refine aq.not ?_;simp[bz];exact⟨c,by simp[VP,sh,y]⟩
 obtain⟨bu,cu,rfl,_⟩:=id R.ex;obtain⟨h,z,c,G,I,S⟩:=Q (.slice bu xs.length cu) a;simp[bz,a.h.pick,a.h.make,ptr,a.h.may (bg _),<-z,-Wr];by_cases l:xs.length=ab.a.length
 ·have h:((xs.length:Int)=(ab.a.length:Int)):=by omega
  simp[h,G,bx,bB,-Wr];refine aq.of (AW:=by simp[l]) (az:=[.agg #[.slice n ab.a.length o,.slice p ab.rows.length q]]) (zf j c.h (ae.ext (c.ext g)) m) ?_;rintro _ H4 ⟨d,rfl⟩;have J:=c.trans d;cases v:ab.I
  ·simp[l];exact⟨J,by simp[VP,sh,v]⟩
  ·have L:=(R.ext (S.ext a.h)).ext (d.ext c.h);rw[l]at L I;have U:=d.some c.h G;have V:=d.some c.h I;have W:∀i,i<ab.a.length->aS (fY xs i) 10000:=λi _=>R9 D.all i;have ad:sh ab xs ab.a.length=true:=by simp[sh,y,l,v]
   simp[l,U,-VU,-Xx]
   refine eE (σ:=Unit) ab.a.length (λk _=>[(2,.pointer (some ⟨B,0,none⟩)),(5,.pointer (some ⟨b.next,0,none⟩)),(25,.slice n ab.a.length o)])
    (λk _ aa=>K pm H aa/\K pm H4 aa/\Vy ab (fY xs) k=true) () (by simp) ⟨J,K.refl J.h,rfl⟩ ?_ ?_
   ·rintro k _ r f ⟨F,H,aa⟩;obtain⟨_,_,_,_,cs,rfl,e2,z,e4,e,X,rfl⟩:=af k f;have Y:=eB X;have ag:=F.some g e2;have t:=F.h;obtain⟨w,M⟩:∃w,w=(r.new (.cells [.string ⟨#[]⟩,.string ⟨#[]⟩,.string ⟨#[]⟩,.string ⟨#[]⟩,.bool false] (.t T.Xw))).put r.next (.cells [aA e.name,aA e.low,aA e.up,aA e.cost,.bool e.int] (.t T.Xw)):=⟨_,rfl⟩;have C:K pm r w:=by rw[M];exact ic t _ _
    have a:w.get r.next=some (.cells e.cells (.t T.Xw)):=by rw[M];exact b1
    simp[f,ag,z,e4,t.pick,t.make,t.may (bg _),ptr,bB,dy.cells,<-M,-Wq,-VU];refine Y6 j (F.trans C) (xy v Y) (m.cs e Y) (k:=k) (x:=fY xs) a ((H.trans C).some d.h V) (L.ext ((H.trans C).ext d.h)) f ((W k f).bw (by decide)) (by simp) (by simp) (by simp) ?_;intro _ _ g ah a ai;have K:=aI.zW X;simp[a,-VU];cases Z:OP e (fY xs k)
    ·simp;refine⟨g,?_⟩;have:Vy ab (fY xs) ab.a.length=false:=by
      rw[VW];intro y;have:=Ym.1 y k f;rw[K,Z]at this;cases this
     simp[VP,WQ,this]
    ·simp[ai,-VU];exact⟨g,(H.trans C).trans ah,by simp[Vy,aa,K,Z]⟩
   ·rintro _ _ ⟨k,w,x⟩;simp[w.some d.h U];refine aq.of (az:=[.slice p ab.rows.length q,.func (.func F.qD) #[] #[.pointer (some ⟨b.next,0,none⟩)]]) (Mv j k.h (O.ext (k.ext g)) (by omega) (f:=F.qD) (cs:=#[.pointer (some ⟨b.next,0,none⟩)]) (λi=>!((ab.rows[i]?.map (V6 (fY xs))).getD true)) ?_ (t:=!ab.rows.all (V6 (fY xs))) Yf) ?_
    ·rintro i g cs _ ⟨r,_,f,rfl,b⟩ e;have a:=eB f;simp only[f,gL,jf];exact Y5 j e.h (m.rs r a) hn (BK v a) (b.ext (e.ext k.h)) (L.ext ((w.trans e).ext d.h)) ((w.trans e).some d.h V) (t:=10000) (by decide) W
    rintro _ g ⟨e,rfl⟩;simp;exact⟨k.trans e,by simp[VP,WQ,ad,x]⟩
 ·have:¬((xs.length:Int)=(ab.a.length:Int)):=by omega
  simp[this,];refine aq.not (AW:=by simp) ?_;simp[bz];exact⟨c,by simp[VP,sh,l]⟩
theorem K'(q:Rat):(ck q<0)=(q<0):=by
 unfold ck;apply propext;by_cases h:q<0
 ·simp[h]
 ·by_cases a:q=0<;>simp[h,a]
theorem VZ(q:Rat):(0<ck q)=(0<q):=by
 unfold ck;apply propext;by_cases h:q<0
 ·simp only[h,if_true];exact⟨λh=>by omega,λe=>absurd e (pD.2 (iu h))⟩
 ·by_cases a:q=0
  ·subst a;simp
  ·simp only[h,a,if_false];exact⟨λ_=>Rat.lt_of_le_of_ne (pD.1 h) (Ne.symm a),λ_=>by omega⟩
theorem hB(q:Rat):(ck q=0)=(q=0):=by
 unfold ck;apply propext;by_cases h:q<0
 ·simp only[h,if_true];exact⟨λh=>by omega,λe=>by subst e;exact absurd h qK⟩
 ·by_cases a:q=0<;>simp[h,a]
def ZY(ab:aI)(x:Nat->Rat):Nat->Bool
 | 0=>true
 | k+1=>ZY ab x k&&(!(ab.af k).int||decide ((x k).den=1))
def BC(c:dy)(q:Rat):Bool:=!((!c.low.isEmpty&&decide (q<0))||(!c.up.isEmpty&&decide (0<q)))
def P3(ab:aI)(x:Nat->Rat):Nat->Bool
 | 0=>true
 | k+1=>P3 ab x k&&BC (ab.af k) (x k)
theorem YE{ab:aI}{x:Nat->Rat}:∀{k:Nat},P3 ab x k=true↔∀i,i<k->BC (ab.af i) (x i)=true
 | 0=>by simp[P3]
 | k+1=>by
   rw[P3,b3,YE];constructor
   ·rintro⟨a,b⟩ i _;by_cases e:i=k
    ·exact e▸b
    ·exact a i (by omega)
   ·intro h;exact⟨λi _=>h i (by omega),h k (by omega)⟩
def VY(x:Nat->Rat)(r:bQ):Bool:=VQ r.kind (ck (hI r.j x))
def Ww(ab:aI)(x:Nat->Rat):Bool:=P3 ab x ab.a.length&&(ab.rows.all (VY x)&&decide (ab.rE x<0))
def VC(ab:aI)(xs:List (List UInt8)):Bool:=sh ab xs ab.a.length&&Ww ab (fY xs)
theorem Y'(j:iO X)(g:bs pm H){r:bQ}{bP u:Value}{x:Nat->Rat}{t b:Nat}{z:cz}(y:r.ok)(E:n<=20)(G:kq r n=true)(p:gB H bP r.j)(s:mm H u n x)(I:H.get b=some (.cells [u] z))(v:t<=20000)(w:∀i,i<n->aS (x i) t):
 Call X pm F.qF [.agg (r.cells bP).toArray,.pointer (some ⟨b,0,none⟩)] H λq aa=>K pm H aa/\q=.bool (!VY x r):=by
 refine Call.kK j.qF rfl ?_;obtain⟨k,J,L,M⟩:=Kx G y E;have t:=Yp k v w;obtain⟨c,l⟩:∃c,c=H.new (.cells (r.cells bP) (.t T.YA)):=⟨_,rfl⟩;have e:K pm H c:=by rw[l];exact K.new g _
 have i:c.get H.next=some (.cells (r.cells bP) (.t T.YA)):=by rw[l];exact b4
 obtain⟨y,z⟩:∃y,y=H.next:=⟨_,rfl⟩;rw[<-z]at i;have a:=e.h;have A:=e.some g I;simp[g.pick,g.make,ptr,<-l,<-z,-eL];refine cy.of a.ah rfl ?_;have f:K pm c (c.up 10):=(K.refl a).up 10;have N:=a.lt i;have O:=a.lt A;obtain⟨_,P,B,_,_⟩:=r;simp only at J L M t k;simp[b7,a.none,a.J,i,A,bQ.cells];refine eM f.h (az:=[bP,u]) (by simp[a.none]) rfl (λC d=>YQ j d (p.ext ((e.trans f).ext g)) (s.ext ((e.trans f).ext g)) k v w) ?_;rintro c _ h D;have o:=h.res a;simp;refine eM h.h (az:=[c]) (by simp[o]) rfl (λC d=>jR d (jr j.tozg d D.of (t.bw (by decide)))) ?_;rintro _ _ _ ⟨rfl,rfl⟩;simp;refine gS h.h (az:=[.int .i64 P,.int .i64 (ck (hI B x))]) (by simp[o]) rfl (λC d=>jR d (Yr j)) ?_;rintro _ _ _ ⟨rfl,rfl⟩;have c:=(f.trans h).some a i;have Q:=λm=>lz D c m;obtain⟨R,S,rfl,_⟩:=p.at;obtain⟨U,V,rfl,_⟩:=s.ex;have W:∀m,ed m [.slice R B.length S,.slice U n V]=[]:=λm=>rfl;simp[o,cj,cd,N,O,jT,dM,Q,W,VY];exact e.trans (f.trans h)
theorem Za(d:iO X)(g:bs pm H){v w:Value}{ab:aI}{xs:List (List UInt8)}(hv:iL H v ab)(u:ab.ok)(hw:iN H w xs)(J:o4 xs):
 Call X pm F.qE [v,w] H λr aa=>K pm H aa/\r=.bool (VC ab xs):=by
 refine Call.kK d.qE rfl ?_;have ae:=hv;obtain⟨_,_,rfl,hc,hr⟩:=hv;obtain⟨n,o,rfl,ai⟩:=hc.at;obtain⟨p,q,rfl,_⟩:=hr.at;have hn:=u.c;have ar:=u.r;obtain⟨x,L⟩:∃x,x=H.new (.cells [.slice n ab.a.length o,.slice p ab.rows.length q] (.t T.Xz)):=⟨_,rfl⟩;have A:K pm H x:=by rw[L];exact K.new g _
 have AW:x.get H.next=some (.cells [.slice n ab.a.length o,.slice p ab.rows.length q] (.t T.Xz)):=by rw[L];exact b4
 obtain⟨B,hb⟩:∃B,B=H.next:=⟨_,rfl⟩;rw[<-hb]at AW;simp[g.pick,g.make,ptr,<-L,<-hb,AW,-XC,-eL];refine aq.of (az:=[w,.int .i64 (ab.a.length:Int)]) (QM d A.h (hw.ext (A.ext g)) J.len J.lt) ?_;have af:∀{e:ad} (y:Value),K pm x e->∃i,i=(e.new (.cells [.slice none 0 0] (.t T.V4))).put e.next (.cells [y] (.t T.V4))/\K pm H i/\i.get B=some (.cells [.slice n ab.a.length o,.slice p ab.rows.length q] (.t T.Xz))/\i.get e.next=some (.cells [y] (.t T.V4))/\K pm e i:=λ{e} y a=>by
  have b:=ic a.h (.cells [.slice none 0 0] (.t T.V4)) (.cells [y] (.t T.V4));exact⟨_,rfl,A.trans (a.trans b),(a.trans b).some A.h AW,b1,b⟩
 rintro _ e ⟨a,⟨z,rfl⟩ | ⟨z,y,rfl,hu⟩⟩
 ·obtain⟨i,M,h,N,O,ag⟩:=af (.slice none 0 0) a;simp[bz,a.h.pick,a.h.make,ptr,a.h.may (bg _),<-M];refine aq.not ?_;simp[bz];exact⟨h,by simp[VC,sh,z]⟩
 obtain⟨bu,cu,rfl,_⟩:=id hu.ex;obtain⟨i,M,h,N,O,ag⟩:=af (.slice bu xs.length cu) a;simp[bz,a.h.pick,a.h.make,ptr,a.h.may (bg _),<-M,-Ws];by_cases s:xs.length=ab.a.length
 ·have v:((xs.length:Int)=(ab.a.length:Int)):=by omega
  simp[v,N,bx,bB,-Ws];refine aq.of (AW:=by simp[s]) (az:=[.agg #[.slice n ab.a.length o,.slice p ab.rows.length q]]) (zf d h.h (ae.ext (h.ext g)) u) ?_;rintro _ H4 ⟨b,rfl⟩;have P:=h.trans b;cases C:ab.I
  ·simp[s];exact⟨P,by simp[VC,sh,C]⟩
  ·have D:=(hu.ext (ag.ext a.h)).ext (b.ext h.h);rw[s]at D O;obtain⟨_,_,aj,ak⟩:=id D.ex;cases aj;have g4:=b.some h.h N;have Q:=b.some h.h O;have R:∀j,j<ab.a.length->aS (fY xs j) 10000:=λj _=>R9 J.all j;have al:sh ab xs ab.a.length=true:=by simp[sh,z,s,C]
   simp[s,g4,-Bu,-XB]
   refine eE (σ:=Unit) ab.a.length (λk _=>[(2,.pointer (some ⟨B,0,none⟩)),(5,.pointer (some ⟨e.next,0,none⟩)),(26,.slice n ab.a.length o)])
    (λk _ aa=>K pm H aa/\K pm H4 aa/\P3 ab (fY xs) k=true) () (by simp) ⟨P,K.refl P.h,rfl⟩ ?_ ?_
   ·rintro k _ E f ⟨S,an,ao⟩;obtain⟨_,_,_,_,cs,rfl,e2,e3,e4,c,e5,rfl⟩:=ai k f;obtain⟨_,_,_,_,U,rfl,f2,V,W,f5⟩:=ak k f;have aa:=S.some g e2;have l:=S.h;obtain⟨m,F⟩:∃m,m=(E.new (.cells [.string ⟨#[]⟩,.string ⟨#[]⟩,.string ⟨#[]⟩,.string ⟨#[]⟩,.bool false] (.t T.XA))).put E.next (.cells [aA c.name,aA c.low,aA c.up,aA c.cost,.bool c.int] (.t T.XA)):=⟨_,rfl⟩;have t:K pm E m:=by rw[F];exact ic l _ _
    have g:m.get E.next=some (.cells [aA c.name,aA c.low,aA c.up,aA c.cost,.bool c.int] (.t T.XA)):=by rw[F];exact b1
    have ad:=aI.zW e5;have G:=an.trans t;have X:=G.some b.h f2;have Y:=G.some b.h Q;have v:=f5.up G;have Z:=(R k f).bw (by decide:10000<=fo);have ah:=S.trans t;have no:BC c (fY xs k)=false->K pm H m/\VC ab xs=false:=λhi=>by
     have:P3 ab (fY xs) ab.a.length=false:=by
      rw[VW];intro z;have:=YE.1 z k f;rw[ad,hi]at this;cases this
     exact⟨ah,by simp[VC,Ww,this]⟩
    have I:BC c (fY xs k)=true->K pm H m/\K pm H4 m/\P3 ab (fY xs) (k+1)=true:=λhi=>⟨ah,G,by simp[P3,ao,ad,hi]⟩;cases w:c.low.isEmpty
    ·simp[f,aa,e3,e4,l.pick,l.make,l.may (bg _),ptr,bB,dy.cells,<-F,g,iP,w,Y,X,V,W,-Bu];refine aq.of (az:=[U]) (jr d.tozg t.h v.of Z) ?_;rintro _ _ ⟨rfl,rfl⟩;by_cases r:fY xs k<0
     ·simp[K',r,bz];refine aq.not ?_;simp[bz];exact no (by simp[BC,w,r])
     ·cases H:c.up.isEmpty
      ·simp[K',r,g,iP,H,Y,f,X,V,W,-Bu];refine aq.of (az:=[U]) (jr d.tozg t.h v.of Z) ?_;rintro _ _ ⟨rfl,rfl⟩;by_cases a:0<fY xs k
       ·simp[VZ,a,];exact no (by simp[BC,H,a])
       ·simp[VZ,a,-Bu];exact I (by simp[BC,r,a])
      ·simp[K',r,g,iP,H,bz,-Bu];refine aq.not ?_;simp[bz,-Bu];exact I (by simp[BC,r,H])
    ·simp[f,aa,e3,e4,l.pick,l.make,l.may (bg _),ptr,bB,dy.cells,<-F,g,iP,w,bz,-Bu];refine aq.not ?_;cases r:c.up.isEmpty
     ·simp[bz,g,iP,r,Y,f,X,V,W,-Bu];refine aq.of (az:=[U]) (jr d.tozg t.h v.of Z) ?_;rintro _ _ ⟨rfl,rfl⟩;by_cases a:0<fY xs k
      ·simp[VZ,a,];exact no (by simp[BC,r,a])
      ·simp[VZ,a,-Bu];exact I (by simp[BC,w,a])
     ·simp[g,iP,r,bz,-Bu];refine aq.not ?_;simp[bz,-Bu];exact I (by simp[BC,w,r])
   ·rintro _ _ ⟨l,m,G⟩;have w:=m.some b.h g4;have H:=m.some b.h Q;simp[w,-XD];refine aq.of (az:=[.slice p ab.rows.length q,.func (.func F.qF) #[] #[.pointer (some ⟨e.next,0,none⟩)]]) (Mv d l.h (hr.ext (l.ext g)) (by omega) (f:=F.qF) (cs:=#[.pointer (some ⟨e.next,0,none⟩)]) (λj=>!((ab.rows[j]?.map (VY (fY xs))).getD true)) ?_ (t:=!ab.rows.all (VY (fY xs))) Yf) ?_
    ·rintro j F cs _ ⟨r,_,g,rfl,e⟩ c;have a:=eB g;simp only[g,gL,jf];exact Y' d c.h (u.rs r a) hn (BK C a) (e.ext (c.ext l.h)) (D.ext ((m.trans c).ext b.h)) ((m.trans c).some b.h Q) (t:=10000) (by decide) R
    rintro _ F ⟨c,rfl⟩;have f:=l.trans c;cases E:ab.rows.all (VY (fY xs))
    ·simp[bz];refine aq.not ?_;simp[bz];refine aq.not ?_;simp[bz];exact⟨f,by simp[VC,Ww,E]⟩
    ·simp[c.some l.h w,c.some l.h H,bx,bB];refine aq.of (az:=[.agg #[.slice n ab.a.length o,.slice p ab.rows.length q],.slice bu ab.a.length cu]) (NI d c.h (ae.ext (f.ext g)) u C (D.ext ((m.trans c).ext b.h)) (t:=10000) (by decide) R) ?_;rintro p _ ⟨r,a,b⟩;simp;refine aq.of (az:=[p]) (jr d.tozg r.h a.of (b.bw (by decide))) ?_;rintro _ _ ⟨rfl,rfl⟩;simp[K'];exact⟨f.trans r,by simp[VC,Ww,al,G,E]⟩
 ·have:¬((xs.length:Int)=(ab.a.length:Int)):=by omega
  simp[this,];refine aq.not (AW:=by simp) ?_;simp[bz];exact⟨h,by simp[VC,sh,s]⟩
theorem Call.P{f:FuncId}{args:List Value}{R:Value->ad->Prop}{F:aZ}(a:Has X f F)(b:Nat.ble args.length F.hN=true)
 (h:∀Q:b5,(∀x l aa,rp F.res R x l aa->Q x l aa)->wp X pm (.code F.body) (p7 args 0 []) H [] Q):Call X pm f args H R:=Call.kK a b (h _ λ_ _ _=>id)
theorem HP:gH []=none:=by simp[gH,gn,iT,lD,gm]
theorem ZM(a:iO X)(g:bs pm H){l:List UInt8}(g':l.length<1000000):Call X pm F.hf [aA l] H λr aa=>K pm H aa/\n1 aa r=some (rd l):=by
 refine Call.has a.hf rfl ?_;simp;refine aq.of (vX a.tozg g g') ?_;rintro r _ ⟨b,h⟩
 rcases h with⟨e,rfl⟩ | ⟨q,p,e,rfl,xm⟩
 ·simp[rd,e,n1];exact b
 ·simp[rd,e];exact⟨b,xm.of⟩
def BF(c:dy)(d:Rat):Option Rat:=if d≠0/\(if d<0 then c.up else c.low).isEmpty=true then none else some (d*rd (if d<0 then c.up else c.low))
theorem Zz(f:iO X)(g:bs pm H){c:dy}{w:Value}{d:Rat}{t:Nat}(C:c.ok)(D:b9 H w d)(E:t<=30000000)(o:aS d t):
 Call X pm F.qG [.agg c.cells.toArray,w] H λr aa=>K pm H aa/\(BF c d=none/\r=.tuple #[.pointer none,.bool false]∨∃q p,BF c d=some q/\r=.tuple #[p,.bool true]/\b9 aa p q/\aS q (t+10000)):=by
 refine Call.P f.qG rfl λQ s=>?_;have k:=o.bw (aY E (by decide));obtain⟨u,h,i,v,x⟩:=c;obtain⟨y,z,E⟩:=C;simp only at y z E;obtain⟨a,l⟩:∃a,a=H.new (.cells [aA u,aA h,aA i,aA v,.bool x] (.t T.YB)):=⟨_,rfl⟩;have e:K pm H a:=by rw[l];exact K.new g _
 have A:a.get H.next=some (.cells [aA u,aA h,aA i,aA v,.bool x] (.t T.YB)):=by rw[l];exact b4
 have m:=D.up e;simp[g.pick,g.make,ptr,dy.cells,<-l,A,-VV,-XE];refine aq.of (az:=[w]) (jr f.tozg e.h m.of k) ?_;rintro _ a ⟨rfl,rfl⟩;have B:∀(b:List UInt8) (L:bb),b.length<=10000->b=(if d<0 then i else h)->aK 1 L=some w->aK 6 L=some (aA b)->wp X pm (.code VV) L a [] Q:=by
  intro b L p q n c;simp[n,-VJ];refine aq.of (az:=[w]) (jr f.tozg e.h m.of k) ?_;rintro _ a ⟨rfl,rfl⟩;have r:∀{g:bb},aK 1 g=some w->aK 6 g=some (aA b)->¬(d≠0/\b.isEmpty=true)->wp X pm (.code VJ) g a [] Q:=by
   intro g a g l;simp[a,g];refine aq.of (az:=[aA b]) (ZM f e.h (by omega)) ?_;rintro g _ ⟨a,t⟩;simp[-eL];refine aq.of (az:=[w,g]) (pY f.tozg a.h (m.up a).of t k (CS p)) ?_;rintro _ _ ⟨f,g⟩;simp;refine s _ _ _ ?_;simp;refine⟨e.trans (a.trans f),d*rd b,?_,g,kt o (jg p)⟩;rw[BF,<-q,aC l]
  by_cases j:d=0
  ·have:ck d=0:=by rw[hB];exact j
   simp[this,bz,-VJ];exact r (by simp[n]) (by simp[c]) (by simp[j])
  ·have:(ck d==0)=false:=by simpa [hB]using j
   cases d:b.isEmpty
   ·simp[this,c,iP,d,-VJ];exact r (by simp[n]) (by simp[c]) (by simp[d])
   ·simp[this,c,iP,d,-VJ];refine s _ _ _ ?_;simp;exact⟨e,by simp[BF,<-q,j,d]⟩
 by_cases a:d<0
 ·simp[K',a,A,-VV];exact B i _ z (by simp[a]) (by simp) (by simp)
 ·simp[K',a,-VV];exact B h _ y (by simp[a]) (by simp) (by simp)
def dI(H:ad)(c n k:Nat)(x:Nat->Rat):Prop:=∃a,H.get c=some (.cells a (.n 1))/\a.length=n/\∀i,i<k->∃p,a[i]? = some p/\b9 H p (x i)
theorem dI.k{c k:Nat}{x:Nat->Rat}(h:dI H c n k x)(g:bs pm H)(u:K pm H aa):dI aa c n k x:=by
 obtain⟨a,b,c,d⟩:=h;exact⟨a,u.some g b,c,λi a=>(d i a).imp λ_ q=>⟨q.1,q.2.up u⟩⟩
theorem dI.put{c k m:Nat}{x:Nat->Rat}{a:List Value}(g:bs pm H)(b:m<=c)(AW:H.get c=some (.cells a (.n 1)))(g':a.length=n)(h:∀i,i<k->∃p,a[i]? = some p/\b9 H p (x i)){i:Nat}(aJ:i<n){p:Value}{q:Rat}(d:b9 H p q){dd:Nat}(f:∀j,j<dd->j=i∨j<k):
 aF pm m H (H.put c (.cells (a.set i p) (.n 1)))/\dI (H.put c (.cells (a.set i p) (.n 1))) c n dd (λj=>if j=i then q else x j):=by
 have u:=aF.put (n:=m) (.refl g) b AW (by simp) (.cells (a.set i p) (.n 1));refine⟨u,_,b1,by simp[g'],λj k=>?_⟩;by_cases e:j=i
 ·subst e;exact⟨p,by rw[uX (by omega)],by simpa using d.up u⟩
 ·obtain⟨r,a,b⟩:=h j ((f j k).resolve_left e);exact⟨r,by rw[sz (Ne.symm e)];exact a,by simpa [e]using b.up u⟩
theorem dI.row{c cap:Nat}{x:Nat->Rat}(h:dI H c n n x):mm H (.slice (some ⟨c,0,none⟩) n cap) n x:=by
 obtain⟨a,b,_,d⟩:=h;exact⟨_,_,rfl,λi e=>by
  obtain⟨p,f,g⟩:=d i e;exact⟨c,0,_,a,p,rfl,b,rfl,by simpa using f,g⟩⟩
theorem dI.congr{c k:Nat}{x y:Nat->Rat}(h:dI H c n k x)(e:∀i,i<k->y i=x i):dI H c n k y:=by
 obtain⟨a,b,c,d⟩:=h;exact⟨a,b,c,λi a=>by rw[e i a];exact d i a⟩
def aI.row(ab:aI)(i:Nat):bQ:=ab.rows.getD i ⟨[],1,[],[],[]⟩
theorem aI.St{ab:aI}{i:Nat}{r:bQ}(h:ab.rows[i]? = some r):ab.row i=r:=by simp[aI.row,List.getD,h]
def KE(y:Rat)(d:Nat->Rat)(c:dq):Nat->Rat:=λj=>if j=c.af.toNat then d j-rd c.v*y else d j
def sO(l:List dq)(y:Rat)(d:Nat->Rat):Nat->Rat:=l.foldl (KE y) d
def d0(ab:aI)(TQ:Bool)(j:Nat):Rat:=if TQ then rd (ab.af j).cost else 0
def tZ(ab:aI)(TQ:Bool)(y:Nat->Rat):Nat->Nat->Rat
 | 0=>d0 ab TQ
 | k+1=>sO (ab.row k).j (y k) (tZ ab TQ y k)
def RM(ab:aI)(y:Nat->Rat)(k:Nat):Rat:=a1 (λi=>y i*rd (ab.row i).rhs) k
def yx(ab:aI)(y:Nat->Rat)(i:Nat):Bool:=!((decide ((ab.row i).kind=1)&&decide (0<y i))||(decide ((ab.row i).kind=3)&&decide (y i<0)))
def qx(ab:aI)(d:Nat->Rat)(s:Rat):Nat->Option Rat
 | 0=>some s
 | k+1=>match qx ab d s k with
   | none=>none
   | some s=>(match BF (ab.af k) (d k) with
     | none=>none
     | some q=>some (s+q))
def vo(ab:aI)(y:Nat->Rat):Nat->Bool
 | 0=>true
 | k+1=>vo ab y k&&yx ab y k
def zL(ab:aI)(TQ:Bool)(y:Nat->Rat):Option Rat:=if vo ab y ab.rows.length=true then qx ab (tZ ab TQ y ab.rows.length) (RM ab y ab.rows.length) ab.a.length else none
def rB(ab:aI)(xs:List (List UInt8))(TQ:Bool):Option Rat:=if sh ab xs ab.rows.length=true then zL ab TQ (fY xs) else none
theorem Dd{ab:aI}{y:Nat->Rat}:∀{k:Nat},vo ab y k=true↔∀i,i<k->yx ab y i=true
 | 0=>by simp[vo]
 | k+1=>by
   rw[vo,b3,Dd];constructor
   ·rintro⟨a,b⟩ i _;by_cases e:i=k
    ·exact e▸b
    ·exact a i (by omega)
   ·intro h;exact⟨λi _=>h i (by omega),h k (by omega)⟩
theorem ZG{ab:aI}{d:Nat->Rat}{s:Rat}{k:Nat}(h:qx ab d s k=none):∀m,k<=m->qx ab d s m=none:=by
 intro m _
 induction m with
 | zero=>obtain rfl:k=0:=by omega
         exact h
 | succ m ih=>
   by_cases e:k=m+1
   ·exact e▸h
   ·rw[qx,ih (by omega)]
theorem YF{y:Rat}{j:Nat}:∀{l:List dq} {d:Nat->Rat},(∀c∈l,c.af.toNat≠j)->sO l y d j=d j
 | [],_,_=>rfl
 | c::l,d,h=>by
   show sO l y (KE y d c) j=d j;rw[YF λc a=>h c (.tail _ a),KE,aC (Ne.symm (h c (.head _)))]
theorem Yk{n:Int}:∀{l:List dq} {last:Int} (k:Nat),hH n last l=true->hH n last (l.take k)=true
 | [],_,k,_=>by simp[hH]
 | c::l,last,0,_=>by simp[hH]
 | c::l,last,k+1,h=>by
   simp only[hH,b3,List.take_succ_cons]at h|-;exact⟨h.1,h.2.1,h.2.2.1,h.2.2.2.1,Yk k h.2.2.2.2⟩
theorem YG{y:Rat}{j:Nat}{n:Nat}:∀{l:List dq} {last:Int} {d:Nat->Rat},-1<=last->hH n last l=true->sO l y d j=d j∨∃c∈l,sO l y d j=d j-rd c.v*y
 | [],_,_,_,_=>.inl rfl
 | c::l,last,d,_,h=>by
   have e:=zV h;simp only[hH,b3,df]at h;obtain⟨_,_,_,_,a⟩:=h;show sO l y (KE y d c) j=d j∨∃e∈c::l,sO l y (KE y d c) j=d j-rd e.v*y;by_cases e:j=c.af.toNat
   ·refine .inr ⟨c,.head _,?_⟩;rw[YF,KE,aT e];intro b d;have:=((zV a).1 b d).2.1;omega
   ·have b:KE y d c j=d j:=by rw[KE,aC e]
    rcases YG (last:=c.af) (d:=KE y d c) (by omega) a with h | ⟨a,e,h⟩
    ·exact .inl (h.trans b)
    ·exact .inr ⟨a,.tail _ e,by rw[h,b]⟩
theorem YH{r:bQ}{n:Nat}(a:kq r n=true)(c:r.ok){y:Rat}(e:aS y 10000){d:Nat->Rat}{t:Nat}(b:∀j,aS (d j) t)(k j:Nat):aS (sO (r.j.take k) y d j) (t+20001):=by
 simp only[kq,b3]at a
 rcases YG (y:=y) (j:=j) (d:=d) (by omega) (Yk k a.1) with h | ⟨a,f,h⟩
 ·rw[h];exact en (b j) (by omega)
 ·rw[h];have d:=c.2.2 a (sH f);exact en (S' (b j) (kt (jg (k:=10000) d) e)) (by omega)
theorem aI.rowAt{ab:aI}{i:Nat}(h:i<ab.rows.length):ab.rows[i]? = some (ab.row i):=by rw[aI.row,il,eu h];rfl
theorem Zl{ab:aI}(a:ab.ok)(TQ:Bool)(j:Nat):aS (d0 ab TQ j) 10000:=by
 unfold d0
 cases TQ with
 | false=>exact pR (by decide)
 | true=>
   simp only[if_true];refine jg ?_;by_cases h:j<ab.a.length
   ·exact(a.cs _ (eB (aI.jv h))).2.2
   ·rw[aI.af,il,gr (by omega)];simp
theorem WO{ab:aI}(a:ab.ok)(b:ab.I=true){TQ:Bool}{y:Nat->Rat}(c:∀i,aS (y i) 10000):∀k,k<=ab.rows.length->∀j,aS (tZ ab TQ y k j) (10000+k*20001)
 | 0,_,j=>by simpa [tZ]using Zl a TQ j
 | k+1,_,j=>by
   have d:=eB (aI.rowAt (ab:=ab) (i:=k) (by omega));have:=YH (BK b d) (a.rs _ d) (c k) (WO (TQ:=TQ) a b c k (by omega)) (ab.row k).j.length j;rw[V5]at this;exact en this (by omega)
theorem Yx{ab:aI}(a:ab.ok){y:Nat->Rat}(b:∀i,aS (y i) 10000){k:Nat}(c:k<=ab.rows.length):aS (RM ab y k) 800100:=by
 have:=a.r;refine en (vt (t:=20000) λi _=>?_) (by omega);have c:=eB (aI.rowAt (ab:=ab) (i:=i) (by omega));exact en (kt (b i) (jg (k:=10000) (a.rs _ c).1)) (by omega)
theorem Xj{ab:aI}(b:ab.ok){d:Nat->Rat}{s:Rat}{t:Nat}(c:aS s 800100)(f:∀j,aS (d j) t):∀{k:Nat} {q:Rat},k<=ab.a.length->qx ab d s k=some q->aS q (800100+k*(t+10001))
 | 0,q,_,h=>by simp only[qx,ax]at h;subst h;simpa using c
 | k+1,q,_,h=>by
   rw[qx]at h
   cases e:qx ab d s k with
   | none=>rw[e]at h;cases h
   | some _=>
     rw[e]at h;simp only at h
     cases a:BF (ab.af k) (d k) with
     | none=>rw[a]at h;cases h
     | some p=>
       rw[a]at h;simp only[ax]at h;subst h;have g:=b.cs _ (eB (aI.jv (ab:=ab) (i:=k) (by omega)));have:aS p (t+10000):=by
        unfold BF at a;by_cases i:d k≠0/\(if d k<0 then(ab.af k).up else(ab.af k).low).isEmpty=true
        ·rw[aT i]at a;cases a
        ·rw[aC i]at a;simp only[ax]at a;subst a;refine kt (f k) (jg ?_);split
         ·exact g.2.1
         ·exact g.1
       refine en (s0 (Xj b c f (by omega) e) this) ?_;rw[hS];omega
theorem Y0(o:iO X)(M:bs pm aj)(y:K pm aj H){ab:aI}(m:ab.ok){b c:Nat}{z:cz}{p:Option Addr}{cap:Nat}{N u:Value}{d:Nat->Rat}{s:Rat}{t:Nat}(O:gC aj (.slice p ab.a.length cap) ab.a)(P:H.get b=some (.cells [.slice p ab.a.length cap,N] z))
 (R:dI H c ab.a.length ab.a.length d) (S:b9 H u s) (U:t<=1000000) (q:∀j,aS (d j) t) (z:aS s 800100) {L:bb} (V:aK 3 L=some (.pointer (some ⟨b,0,none⟩))) (W:aK 10 L=some (.slice (some ⟨c,0,none⟩) ab.a.length ab.a.length)) (Y:aK 13 L=some u) {Q:b5}
 (A:∀x l aa,rp [.slot 6,.slot 7] (λr aa=>K pm aj aa/\r=s8 (qx ab d s ab.a.length)) x l aa->Q x l aa):wp X pm (.code V2) L H [] Q:=by
 have N:=m.c;obtain⟨_,_,Z,ad⟩:=O.at;cases Z;have B:=y.h;simp[V,P,-Xr,-Xn]
 refine eE (σ:=Value×Rat) ab.a.length (λk v=>[(10,.slice (some ⟨c,0,none⟩) ab.a.length ab.a.length),(13,v.1),(132,.slice p ab.a.length cap)])
  (λk v aa=>K pm aj aa/\K pm H aa/\b9 aa v.1 v.2/\qx ab d s k=some v.2) (u,s) (by simp[W,Y]) ⟨y,K.refl B,S,rfl⟩ ?_ ?_
 ·rintro k ⟨v,Q⟩ j l ⟨u,x,C,n⟩;simp only at C n;obtain⟨_,_,_,_,_,rfl,X,e3,e4,a,D,rfl⟩:=ad k l;have aa:=eB D;have E:=aI.zW D;have ae:=u.some M X;have f:=u.h;obtain⟨_,d1,_,p⟩:=R.k B x;obtain⟨af,p1,p2⟩:=p k l;obtain⟨c,w⟩:∃c,c=(j.new (.cells [.string ⟨#[]⟩,.string ⟨#[]⟩,.string ⟨#[]⟩,.string ⟨#[]⟩,.bool false] (.t T.Xm))).put j.next (.cells [aA a.name,aA a.low,aA a.up,aA a.cost,.bool a.int] (.t T.Xm)):=⟨_,rfl⟩;have e:K pm j c:=by rw[w];exact ic f _ _
  have F:c.get j.next=some (.cells [aA a.name,aA a.low,aA a.up,aA a.cost,.bool a.int] (.t T.Xm)):=by rw[w];exact b1
  have b:=e.h;have G:=e.some f d1;have H:=b.lt F;have I:=b.lt G;have g:K pm c (c.up 11):=(K.refl b).up 11;simp[l,ae,e3,e4,f.pick,f.make,f.may (bg _),ptr,bB,dy.cells,<-w,-Wp];refine cy.of b.ah rfl ?_;simp[b7,b.none,b.J,F,G,p1,l,bx,bB,-Wp];refine gS (eA:=by simp[dy.cells]) g.h (az:=[.agg a.cells.toArray,af]) (by simp[b.none]) rfl (λ_ c=>Zz o c (m.cs a aa) ((p2.up e).up g) (by omega) (q k)) ?_;rintro r _ i hr;have J:=i.res b;have L:=u.trans (e.trans (g.trans i));have ag:=x.trans (e.trans (g.trans i))
  rcases hr with⟨h,rfl⟩ | ⟨Z9,ZK,h,rfl,AZ,Zx⟩
  ·simp[J,cj,cd,H,I];refine A _ _ _ ?_;have:qx ab d s (k+1)=none:=by rw[qx,n];simp only[E,h]
   simp[ZG this _ (by omega:k+1<=ab.a.length),s8];exact L
  ·simp[J,cj,cd,H,I];have a:=Xj m z q (by omega) n;have b:aS Q 22000000:=en a (by
    have a:k*(t+10001)<=20*1010001:=gK (by omega) (by omega);omega)
   refine aq.of (az:=[v,ZK]) (q5 o.tozg i.h (((C.up e).up g).up i).of AZ.of (b.bw (by decide)) (Zx.bw (aY (Nat.add_le_add_right U _) (by decide)))) ?_;rintro _ _ ⟨a,b⟩;simp;exact⟨L.trans a,ag.trans a,_,b,by rw[qx,n];simp only[E,h]⟩
 ·rintro⟨v,d⟩ e ⟨b,_,c,a⟩;simp only at c a;simp;have f:aS d 22000000:=en (Xj m z q (by omega) a) (by
   have d:ab.a.length*(t+10001)<=20*1010001:=gK (by omega) (by omega);omega)
  refine aq.of (az:=[v]) (tv o.tozg b.h c.of (f.bw (by decide))) ?_;rintro _ e ⟨rfl,rfl⟩;simp;refine A _ _ _ ?_;simp[a,s8];exact b
def h0(c:Nat)(H aa:ad):Prop:=∀b x,b≠c->H.get b=some x->aa.get b=some x
theorem h0.refl{c:Nat}:h0 c H H:=λ_ _ _ h=>h
theorem h0.trans{c:Nat}(h:h0 c H aa)(g:h0 c aa bL):h0 c H bL:=λb x a e=>g b x a (h b x a e)
theorem K.Od{c:Nat}(k:K pm H aa)(g:bs pm H):h0 c H aa:=λ_ _ _ e=>k.some g e
theorem h0.put{c:Nat}{y:bk}:h0 c H (H.put c y):=λ_ _ a e=>by rw[a7 (h:=a)];exact e
theorem h0.cB{c:Nat}(h:h0 c H aa){v:Value}{q:Rat}{cs:List Value}{z:cz}(a:H.get c=some (.cells cs z))(d:b9 H v q):b9 aa v q:=by
 obtain⟨b,rfl,c⟩:=d;exact⟨b,rfl,h b _ (by rintro rfl;rw[c]at a;cases a) c⟩
theorem Y2(l:iO X)(g:bs pm H){r:bQ}{bP w:Value}{cR m k:Nat}{z:cz}{y:Nat->Rat}(a:H.get cR=some (.cells (r.cells bP) z))(i:mm H w m y)(f:k<m)(n:bw (y k)=true)
 {L:bb} (m:aK 8 L=some w) (o:aK 14 L=some (.int .i64 (k:Int))) (b:aK 15 L=some (.pointer (some ⟨cR,0,none⟩))) {Q:b5}
 (p:(decide (r.kind=1)&&decide (0<y k)||decide (r.kind=3)&&decide (y k<0))=true->∀aN,aK 6 aN=some (aA [])->aK 7 aN=some (.bool false)->Q .ret aN H)
 (h:(decide (r.kind=1)&&decide (0<y k)||decide (r.kind=3)&&decide (y k<0))=false->∀aN:bb,(∀j,j<66->aK j aN=aK j L)->wp X pm (.code Bt) aN H [] Q):
 wp X pm (.code Wn) L H [] Q:=by
 obtain⟨_,_,rfl,x⟩:=i.ex;obtain⟨_,_,_,_,q,rfl,s,t,u,v⟩:=x k f;have e:∀j,j<66->∀i,66<=i->j≠i:=λj e i _=>by omega
 by_cases c:r.kind=1
 ·simp[b,a,bQ.cells,c,m,o,f,s,t,u,-Bt];refine aq.of (az:=[q]) (jr l.tozg g v.of n) ?_;rintro _ H ⟨rfl,rfl⟩;by_cases d:0<y k
  ·simp[VZ,d,bz,-Bt];refine aq.not ?_;simp[bz];exact p (by simp[c,d]) _ (by simp) (by simp)
  ·simp[VZ,d,b,a,bQ.cells,c,bz,-Bt];refine aq.not ?_;simp[bz,-Bt];refine h (by simp[c,d]) _ λj d=>?_;simp[e j d]
 ·have w:(r.kind==1)=false:=by simpa using c
  by_cases d:r.kind=3
  ·simp[b,a,bQ.cells,d,bz,-Bt];refine aq.not ?_;simp[b,a,bQ.cells,d,m,o,f,s,t,u,-Bt];refine aq.of (az:=[q]) (jr l.tozg g v.of n) ?_;rintro _ H ⟨rfl,rfl⟩;by_cases f:y k<0
   ·simp[K',f];exact p (by simp[d,f]) _ (by simp) (by simp)
   ·simp[K',f,-Bt];refine h (by simp[d,f]) _ λj f=>?_;simp[e j f]
  ·have f:(r.kind==3)=false:=by simpa using d
   simp[b,a,bQ.cells,w,bz,-Bt];refine aq.not ?_;simp[b,a,bQ.cells,f,bz,-Bt];refine aq.not ?_;simp[bz,-Bt];refine h (by simp[c,d]) _ λj a=>?_;simp[e j a]
theorem Y1(A:iO X)(G:bs pm aj)(k0:K pm aj H){r:bQ}{bP w u cn Wz:Value}{cR m M k c:Nat}{z:cz}{y d:Nat->Rat}{t:Nat}(I:r.ok)(J:kq r n=true)(hn:n<=20)(ab:gB aj bP r.j)(hr:H.get cR=some (.cells (r.cells bP) z))(_:cR≠c)(N:aj.next<=c)
 (hd:dI H c n n d) (O:∀aa,h0 c H aa->mm aa w m y) (P:k<m) (z:aS (y k) 10000) (ht:t<=1000000) (ad:∀j,aS (d j) t) {L:bb} (l3:aK 3 L=some cn) (l8:aK 8 L=some w) (ae:aK 10 L=some (.slice (some ⟨c,0,none⟩) n n)) (af:aK 13 L=some u) (ag:aK 14 L=some (.int .i64 (k:Int))) (R:aK 15 L=some (.pointer (some ⟨cR,0,none⟩)))
 (ah:aK 63 L=some Wz) (ai:aK 64 L=some (.int .i64 (M:Int))) (ak:aK 65 L=some (.int .i64 (k:Int))) {Q:b5}
 (al:∀aN aa,K pm aj aa->h0 c H aa->dI aa c n n (sO r.j (y k) d)->Sub [(65,.int .i64 (k:Int)),(64,.int .i64 (M:Int)),(3,cn),(8,w),(10,.slice (some ⟨c,0,none⟩) n n),(13,u),(63,Wz)] aN->Q .normal aN aa):
 wp X pm (.code VB) L H [] Q:=by
 obtain⟨S,_,_,_⟩:=Kx J I hn;have aJ:=S.len;obtain⟨an,ao,rfl,aq⟩:=ab.at;obtain⟨bw,cw,ar,_⟩:=(O H h0.refl).ex;subst ar;simp[R,hr,bQ.cells,-Xo]
 refine eE (σ:=Unit) r.j.length (λp _=>[(14,.int .i64 (k:Int)),(15,.pointer (some ⟨cR,0,none⟩)),(105,.slice an r.j.length ao),(65,.int .i64 (k:Int)),(64,.int .i64 (M:Int)),(3,cn),(8,.slice bw m cw),(10,.slice (some ⟨c,0,none⟩) n n),(13,u),(63,Wz)])
  (λp _ aa=>K pm aj aa/\h0 c H aa/\dI aa c n n (sO (r.j.take p) (y k) d)) () (by simp[l3,l8,ae,af,ag,R,ah,ai,ak]) ⟨k0,h0.refl,hd⟩ ?_ ?_
 ·rintro p _ o H ⟨B,L,aa⟩;obtain⟨_,_,_,_,_,rfl,e2,e3,e4,b,M,rfl⟩:=aq p H;obtain⟨C,h2,_,_⟩:=S.all b (eB M);obtain⟨j,hj⟩:∃j:Nat,b.af=(j:Int):=⟨b.af.toNat,by omega⟩;have t:j<n:=by omega
  have au:b.af.toNat=j:=by omega
  obtain⟨_,_,u,av⟩:=(O o L).ex;cases u;obtain⟨_,_,_,_,aw,rfl,f2,f3,f4,f5⟩:=av k P;have f:=B.h;have ax:=B.some G e2;obtain⟨h,D⟩:∃h,h=(o.new (.cells [.int .i64 0,.string ⟨#[]⟩] (.t T.Xl))).put o.next (.cells [.int .i64 b.af,aA b.v] (.t T.Xl)):=⟨_,rfl⟩;have i:K pm o h:=by rw[D];exact ic f _ _
  have v:h.get o.next=some (.cells [.int .i64 b.af,aA b.v] (.t T.Xl)):=by rw[D];exact b1
  have a:=i.h;have Q:=i.some f f2;obtain⟨ps,w,d2,U⟩:=aa.k f i;obtain⟨pj,ay,aB⟩:=U j t;have aC:=a.lt v;have aD:=a.lt w;have aE:=a.lt Q;have g:K pm h (h.up 19):=(K.refl a).up 19;have aG:=YH J I z ad p;have aH:∀o,Perm.may ⟨pm.ah,pm.ok,o⟩ c=true:=λo=>by
   have:=G.may N;exact this
  simp[H,ax,e3,e4,f.pick,f.make,f.may (bg _),ptr,bB,dq.cells,<-D];refine cy.of a.ah rfl ?_;simp[b7,a.none,a.J,v,hj,t,P,Q,f3,f4,w,ay];refine eM g.h (az:=[aA b.v]) (by simp[a.none]) rfl (λV q=>CX (g':=by have:=C;unfold dq.ok at this;omega) A q h2) ?_;rintro h _ e E;have o:=e.res a;have F:=((f5.up i).up g).up e;simp;refine eM e.h (az:=[h,aw]) (by simp[o]) rfl (λV q=>pY A.tozg q E.of F.of (CS C) (z.bw (by decide))) ?_;rintro h _ l W;have o:=(K.trans e l).res a;have aI:aS (rd b.v*y k) 20000:=en (kt (jg (k:=10000) C) z) (by omega);have X:=((aB.up g).up e).up l;simp;refine eM l.h (az:=[pj,h]) (by simp[o]) rfl (λV q=>zp A.tozg q X.of W.of ((aG j).bw (aY (Nat.add_le_add_right ht _) (by decide))) (aI.bw (by decide))) ?_;rintro _ _ h Y;have x:=g.trans (K.trans (K.trans e l) h);have r3:=(K.trans (K.trans e l) h).res a;have Z:=x.some a w;obtain⟨up,dp⟩:=dI.put (m:=aj.next) h.h N Z d2 (λs h=>(U s h).imp λ_ o=>⟨o.1,o.2.up x⟩) t Y (dd:=n) (λs h=>.inr h);obtain⟨_,rfl,_⟩:=id Y;have h:=(g.trans e).some a v;have o:=(g.trans e).some a w;have q:=(K.trans (g.trans e) l).some a v;have a:=λm=>nO E F h m;have e:=λm=>nO E F o m;have g:=λm=>nO X W q m;have h:j<ps.length:=by omega
  simp[r3,Z,t,h,aH,cj,cd,aC,aD,aE,jT,dM,xY,a,e,g];have a:r.j.take (p+1)=r.j.take p++[b]:=by rw[List.take_add_one,M];rfl
  refine⟨aF.trans (B.trans (i.trans x)) up,L.trans (h0.trans ((K.trans i x).Od f) h0.put),?_⟩;rw[a,sO,List.foldl_append];refine dp.congr λs _=>?_;show KE (y k) (sO (r.j.take p) (y k) d) b s=_;rw[KE,au];by_cases u:s=j
  ·simp[u]
  ·simp[u]
 ·rintro _ _ ⟨b,c,a⟩;rw[V5]at a;simp;exact al _ _ b c a (by simp)
theorem YZ(j:iO X)(A:bs pm aj)(I:K pm aj H){ab:aI}(d:ab.ok)(B:ab.I=true){TQ:Bool}{b c:Nat}{z:cz}{J C:Option Addr}{cap p:Nat}{u w:Value}{y:Nat->Rat}(Y:gC aj (.slice J ab.a.length cap) ab.a)(Z:iM aj (.slice C ab.rows.length p) ab.rows)
 (N:H.get b=some (.cells [.slice J ab.a.length cap,.slice C ab.rows.length p] z)) (ad:b≠c) (ae:aj.next<=c) (hd:dI H c ab.a.length ab.a.length (d0 ab TQ)) (D:∀aa,h0 c H aa->mm aa w ab.rows.length y) (e:∀i,aS (y i) 10000) (hu:b9 H u 0)
 {L:bb} (O:aK 3 L=some (.pointer (some ⟨b,0,none⟩))) (l8:aK 8 L=some w) (af:aK 10 L=some (.slice (some ⟨c,0,none⟩) ab.a.length ab.a.length)) (ag:aK 13 L=some u) {Q:b5}
 (P:∀x l aa,rp [.slot 6,.slot 7] (λr aa=>K pm aj aa/\r=s8 (zL ab TQ y)) x l aa->Q x l aa):wp X pm (.code VT) L H [] Q:=by
 have R:=d.c;have J:=d.r;obtain⟨_,_,ah,ai⟩:=Z.at;cases ah;have J:=I.h;simp[O,N,-V2,-Xp]
 refine eE (σ:=Value) ab.rows.length (λk v=>[(3,.pointer (some ⟨b,0,none⟩)),(8,w),(10,.slice (some ⟨c,0,none⟩) ab.a.length ab.a.length),(13,v),(63,.slice C ab.rows.length p)])
  (λk v aa=>K pm aj aa/\h0 c H aa/\dI aa c ab.a.length ab.a.length (tZ ab TQ y k)/\b9 aa v (RM ab y k)/\vo ab y k=true) u (by simp[O,l8,af,ag]) ⟨I,h0.refl,hd,hu,rfl⟩ ?_ ?_
 ·rintro k v q h ⟨x,X,z,hv,aj⟩;obtain⟨b',ak,_,_,_,rfl,e2,e3,e4,r,H,L,rfl,Q⟩:=ai k h;have C:=eB L;have s:=aI.St L;have S:=BK B C;have E:=d.rs r C;obtain⟨_,q2,_,_⟩:=Kx S E R;have f:=x.h;have al:=x.some A e2;obtain⟨_,C,_,_⟩:=id z;have I:=f.lt C;obtain⟨g,F⟩:∃g,g=(q.new (.cells [.string ⟨#[]⟩,.int .i64 0,.slice none 0 0,.string ⟨#[]⟩,.string ⟨#[]⟩] (.t T.Xk))).put q.next (.cells [aA r.name,.int .i64 r.kind,H,aA r.rhs,aA r.kp] (.t T.Xk)):=⟨_,rfl⟩;have l:K pm q g:=by rw[F];exact ic f _ _
  have m:g.get q.next=some (.cells (r.cells H) (.t T.Xk)):=by rw[F];exact b1
  have a:=l.h;have U:=x.trans l;have G:=X.trans (l.Od f);obtain⟨_,_,rfl,_⟩:=Q.at;simp[h,al,e3,e4,f.pick,f.make,f.may (bg _),ptr,bB,bQ.cells,<-F,-Wn];refine Y2 j a m (D g G) h ((e k).bw (by decide)) (by simp) (by simp) (by simp) (λq x l6 l7=>?_) (λan x c=>?_)
  ·simp only[Ua,DC,DE,LM];refine P _ _ _ ?_;have:vo ab y ab.rows.length=false:=by
    rw[VW];intro b;have:=Dd.1 b k h;rw[yx,s,q]at this;cases this
   simp[l6,l7,zL,this,s8];exact U
  ·obtain⟨_,_,ao,aq⟩:=(D g G).ex;subst ao;obtain⟨_,_,_,_,ar,rfl,T,f3,f4,f5⟩:=aq k h;have au:=λq=>WO (TQ:=TQ) d B e k (by omega) q;have av:=a.lt m;have aw:=a.lt T;have w:K pm g (g.up 11):=(K.refl a).up 11;have V:=E.1;simp only[bQ.cells]at m;simp[-VB];refine cy.of a.ah rfl ?_;simp[b7,a.none,a.J,c,m,h,T,f3,f4,-VB];refine eM w.h (az:=[aA r.rhs]) (by simp[a.none]) rfl (λW n=>CX j n q2) ?_;rintro g _ i f1;have q:=i.res a;simp[-VB];refine gS i.h (az:=[ar,g]) (by simp[q]) rfl (λW n=>pY j.tozg n ((f5.up w).up i).of f1.of ((e k).bw (by decide)) (CS V)) ?_;rintro g _ o f6;have q:=(K.trans i o).res a;have ax:=(((hv.up l).up w).up i).up o;have ay:aS (y k*rd r.rhs) 20000:=en (kt (e k) (jg (k:=10000) V)) (by omega);simp[-VB];refine gS o.h (az:=[v,g]) (by simp[q]) rfl (λW n=>q5 j.tozg n ax.of f6.of ((Yx d e (by omega)).bw (by decide)) (ay.bw (by decide))) ?_;rintro n _ q x;have C:=(K.trans (K.trans i o) q).res a;have g:=w.trans (K.trans (K.trans i o) q);simp[C,cj,cd,av,aw,jT,dM,xY,-VB];have o:=U.trans g;have i:=G.trans (g.Od a);have q:=g.some a m;refine Y1 j A o (cn:=.pointer (some ⟨b,0,none⟩)) (u:=n) (Wz:=.slice (some ⟨b',ak,none⟩) ab.rows.length p) (M:=ab.rows.length) E S R Q q (by omega) ae ((z.k f l).k a g) (λaa m=>D aa (i.trans m)) h (e k) (t:=10000+k*20001) (by omega) au (by simp[c]) (by simp[c]) (by simp[c]) (by simp) (by simp[c]) (by simp[c]) (by simp[c]) (by simp[c]) (by simp[c]) (λ_ h m c o p=>?_);obtain⟨_,q,_,_⟩:=((z.k f l).k a g);have a:b9 h n (RM ab y (k+1)):=by
    have:RM ab y (k+1)=RM ab y k+y k*rd r.rhs:=by simp[RM,a1,s]
    rw[this];exact c.cB q x
   refine⟨n,by simpa using p,m,i.trans c,?_,a,?_⟩
   ·simpa [tZ,s]using o
   ·rw[vo,aj,yx,s,an];rfl
 ·rintro v _ ⟨a,c,f,g,h⟩;simp[-V2];have i:=λk=>WO (TQ:=TQ) d B e ab.rows.length (bg _) k;refine Y0 j A a d Y (c b _ ad N) f g (t:=10000+ab.rows.length*20001) (by omega) i (Yx d e (bg _)) (by simp) (by simp) (by simp) λx l aa a=>P x l aa ?_;simpa [zL,h]using a
theorem YY(o:iO X)(u:bs pm aj)(D:K pm aj H){ab:aI}(v:ab.ok)(E:ab.I=true){TQ:Bool}{b c:Nat}{z:cz}{A F:Option Addr}{cap G:Nat}{w:Value}{y:Nat->Rat}(I:gC aj (.slice A ab.a.length cap) ab.a)(W:iM aj (.slice F ab.rows.length G) ab.rows)
 (J:H.get b=some (.cells [.slice A ab.a.length cap,.slice F ab.rows.length G] z)) (M:b≠c) (p:aj.next<=c) (Y:dI H c ab.a.length 0 (d0 ab TQ)) (Z:∀aa,h0 c H aa->mm aa w ab.rows.length y) (hy:∀i,aS (y i) 10000)
 {L:bb} (l2:aK 2 L=some (.bool TQ)) (N:aK 3 L=some (.pointer (some ⟨b,0,none⟩))) (l8:aK 8 L=some w) (ad:aK 10 L=some (.slice (some ⟨c,0,none⟩) ab.a.length ab.a.length)) {Q:b5}
 (hQ:∀x l aa,rp [.slot 6,.slot 7] (λr aa=>K pm aj aa/\r=s8 (zL ab TQ y)) x l aa->Q x l aa):wp X pm (.code Wo) L H [] Q:=by
 have F:=v.c;obtain⟨_,_,e,ae⟩:=I.at;cases e;have F:=D.h;have O:pm.may c=true:=u.may p;simp[N,J,-VT,-Xq]
 refine eE (σ:=Unit) ab.a.length (λk _=>[(2,.bool TQ),(3,.pointer (some ⟨b,0,none⟩)),(8,w),(10,.slice (some ⟨c,0,none⟩) ab.a.length ab.a.length),(42,.slice A ab.a.length cap)])
  (λk _ aa=>K pm aj aa/\h0 c H aa/\dI aa c ab.a.length k (d0 ab TQ)) () (by simp[l2,N,l8,ad]) ⟨D,h0.refl,Y⟩ ?_ ?_
 ·rintro k _ d f ⟨w,X,y⟩;obtain⟨_,_,_,_,_,rfl,e2,e3,e4,a,L,rfl⟩:=ae k f;have A:=eB L;have aa:=aI.zW L;have af:=G1 (xy E A);have D:=(v.cs a A).2.2;have b:=w.h;have ag:=w.some u e2;obtain⟨q,z⟩:∃q,q=(d.new (.cells [.string ⟨#[]⟩,.string ⟨#[]⟩,.string ⟨#[]⟩,.string ⟨#[]⟩,.bool false] (.t T.Wm))).put d.next (.cells [aA a.name,aA a.low,aA a.up,aA a.cost,.bool a.int] (.t T.Wm)):=⟨_,rfl⟩;have r:K pm d q:=by rw[z];exact ic b _ _
  have ah:q.get d.next=some (.cells [aA a.name,aA a.low,aA a.up,aA a.cost,.bool a.int] (.t T.Wm)):=by rw[z];exact b1
  have s:=r.h;simp[f,ag,e3,e4,b.pick,b.make,b.may (bg _),ptr,bB,dy.cells,<-z,-Xs];refine aq.of (az:=[.int .i64 0]) (o0 o.tozg s (n:=0) (by omega) (by omega)) ?_;rintro _ H3 ⟨g,P⟩;obtain⟨Q,R,q,z⟩:=(y.k b r).k s g;have S:=r.trans g;have ai:k<Q.length:=by omega
  obtain⟨j,B⟩:=dI.put (m:=aj.next) (x:=d0 ab TQ) g.h p R q z f P (dd:=k+1) (λi C=>by omega);obtain⟨a1,rfl,_⟩:=id P;have q:=(y.k b r).k s g;have ak:d.next≠c:=λe=>by
   obtain⟨_,c,_,_⟩:=y;have:=b.lt c;omega
  have al:=g.some s ah;obtain⟨l,t⟩:∃l,l=H3.put c (.cells (Q.set k (.pointer (some ⟨a1,0,none⟩))) (.n 1)):=⟨_,rfl⟩;rw[<-t]at j B;have an:l.get d.next=some (.cells [aA a.name,aA a.low,aA a.up,aA a.cost,.bool a.int] (.t T.Wm)):=by rw[t,a7 (h:=ak)];exact al
  have U:h0 c H l:=X.trans (h0.trans (S.Od b) (by rw[t];exact h0.put));have V:K pm aj l:=aF.trans (w.trans S) j;simp[f,R,ai,O,<-t]
  cases TQ with
  | false=>
    simp;refine⟨V,U,B.congr λi C=>?_⟩;by_cases e:i=k<;>simp[e,d0]
  | true=>
    simp[an];refine aq.of (az:=[aA a.cost]) (CX o j.h af) ?_;rintro _ _ ⟨c,h⟩;obtain⟨a,n,b,d⟩:=B.k j.h c;have x:k<a.length:=by omega
    obtain⟨H,K⟩:=dI.put (m:=aj.next) c.h p n b d f h (dd:=k+1) (λi C=>by omega);obtain⟨_,rfl,_⟩:=id h;simp[f,n,x,O];refine⟨aF.trans (V.trans c) H,U.trans (h0.trans (c.Od j.h) h0.put),K.congr λi C=>?_⟩;by_cases e:i=k
    ·subst e;simp[d0,aa]
    ·simp[e]
 ·rintro _ _ ⟨a,e,f⟩;simp[-VT];refine aq.of (az:=[.int .i64 0]) (o0 o.tozg a.h (n:=0) (by omega) (by omega)) ?_;rintro _ _ ⟨c,g⟩;have d:=e.trans (c.Od a.h);simp[-VT];exact YZ o u (a.trans c) v E I W (d b _ M J) M p (f.k a.h c) (λaa h=>Z aa (d.trans h)) hy (by simpa using g) (by simp) (by simp) (by simp) (by simp) hQ
theorem Y3(d:iO X)(g:bs pm H){v w:Value}{ab:aI}{xs:List (List UInt8)}{TQ:Bool}(A:iL H v ab)(j:ab.ok)(M:iN H w xs)(k:o4 xs):
 Call X pm F.pv [v,w,.bool TQ] H λr aa=>K pm H aa/\r=s8 (rB ab xs TQ):=by
 refine Call.P d.pv rfl λQ B=>?_;have N:=A;obtain⟨_,_,rfl,C,D⟩:=A;obtain⟨l,n,rfl,_⟩:=C.at;obtain⟨o,p,rfl,_⟩:=D.at;have A:=j.c;obtain⟨e,q⟩:∃e,e=H.new (.cells [.slice l ab.a.length n,.slice o ab.rows.length p] (.t T.Yy)):=⟨_,rfl⟩;have c:K pm H e:=by rw[q];exact K.new g _
 have AW:e.get H.next=some (.cells [.slice l ab.a.length n,.slice o ab.rows.length p] (.t T.Yy)):=by rw[q];exact b4
 obtain⟨e,E⟩:∃e,e=H.next:=⟨_,rfl⟩;rw[<-E]at AW;simp[g.pick,g.make,ptr,<-q,<-E,AW,-Xu];refine aq.of (az:=[w,.int .i64 (ab.rows.length:Int)]) (QM d c.h (M.ext (c.ext g)) k.len k.lt) ?_;have s:∀{e:bb} {aa:ad},K pm H aa->sh ab xs ab.rows.length=false->aK 6 e=some (aA [])->aK 7 e=some (.bool false)->Q .ret e aa:=λe h q A=>B _ _ _ (by simp[q,A,rB,h,s8];exact e);rintro _ O ⟨t,⟨h,rfl⟩ | ⟨h,P,rfl,G⟩⟩
 ·simp[bz];refine aq.not ?_;simp[bz];exact s (c.trans t) (by simp[sh,h]) (by simp) (by simp)
 have a:=c.trans t;have I:=t.some c.h AW;by_cases f:xs.length=ab.rows.length
 ·simp[f,I,bx,bB,-Xt];refine aq.of (az:=[.agg #[.slice l ab.a.length n,.slice o ab.rows.length p]]) (zf d a.h (N.ext (a.ext g)) j) ?_;rintro _ r ⟨i,rfl⟩;have b:=a.trans i;cases u:ab.I
  ·simp;exact s b (by simp[sh,u]) (by simp) (by simp)
  ·rw[f]at G;have v:=i.some a.h I;have R:sh ab xs ab.rows.length=true:=by simp[sh,h,f,u]
   simp[v,lK b.h.tobR (show ab.a.length<=1073741824 by omega) (show 8*ab.a.length<=17179869184 by omega),-Wo];have x:K pm r (r.new (.cells (times [.pointer none] ab.a.length) (.n 1))):=K.new b.h _;have S:∀m,(times [Value.pointer none] m).length=m:=λm=>by
    induction m with
    | zero=>rfl
    | succ m ih=>rw[times,ot,ih];simp;omega
   have c:=b.h.lt v;refine YY (TQ:=TQ) d g (b.trans x) j u C D (x.some b.h v) (by omega) b.next ⟨_,b4,S _,λF z=>absurd z (hz _)⟩ (w:=P) (y:=fY xs) (λaa H=>?_) (R9 k.all) (by simp) (by simp) (by simp) (by simp) λb l aa T=>B b l aa ?_
   ·obtain⟨U,V,rfl,W⟩:=G.ex;refine⟨U,V,rfl,λF z=>?_⟩;obtain⟨g,X,w,Y,Z,rfl,y,f3,f4,f5⟩:=W F z;have J:=i.trans x;have b:=a.h.lt y;have b:O.next<=r.next:=i.next;refine⟨g,X,w,Y,Z,rfl,H g w (by omega) (J.some a.h y),f3,f4,?_⟩;obtain⟨K,rfl,L⟩:=f5;have b:=a.h.lt L;exact⟨K,rfl,H K _ (by omega) (J.some a.h L)⟩
   ·simpa [rB,R]using T
 ·have:¬((xs.length:Int)=(ab.rows.length:Int)):=by omega
  simp[this,bz];refine aq.not (AW:=by simp) ?_;simp[bz];exact s a (by simp[sh,f]) (by simp) (by simp)
end Go.Dam.C
namespace Go.Dam.C
theorem ew{f g:Nat->Rat}:∀{n:Nat},(∀i,i<n->f i=g i)->a1 f n=a1 g n
 | 0,_=>rfl
 | n+1,h=>by rw[a1,a1,ew λi _=>h i (by omega),h n (by omega)]
theorem oD(f g:Nat->Rat):∀n,a1 (λi=>f i+g i) n=a1 f n+a1 g n
 | 0=>by simp[a1,na]
 | n+1=>by rw[a1,a1,a1,oD f g n];grind
theorem hY(c:Rat)(f:Nat->Rat):∀n,a1 (λi=>c*f i) n=c*a1 f n
 | 0=>by simp[a1]
 | n+1=>by rw[a1,a1,hY c f n];grind
theorem pQ{f:Nat->Rat}{n:Nat}(h:∀i,i<n->f i=0):a1 f n=0:=by
 induction n with
 | zero=>rfl
 | succ n ih=>rw[a1,ih λi _=>h i (by omega),h n (by omega),na]
theorem oE{f:Nat->Rat}{n j:Nat}(a:j<n)(h:∀i,i<n->i≠j->f i=0):a1 f n=f j:=by
 induction n with
 | zero=>omega
 | succ n ih=>
   rw[a1];by_cases e:j=n
   ·subst e;rw[pQ λi _=>h i (by omega) (by omega)];grind
   grind
theorem ma{f:Nat->Rat}{n j:Nat}(a:j<n):a1 f n=f j+a1 (λi=>if i=j then 0 else f i) n:=by
 have h:a1 f n=a1 (λi=>(if i=j then f i else 0)+(if i=j then 0 else f i)) n:=ew λi _=>by
  grind
 rw[h,oD,oE (j:=j) a λi _ a=>by simp[a]];simp
theorem Dl(f:Nat->Nat->Rat)(n:Nat):∀m,a1 (λi=>a1 (λj=>f i j) n) m=a1 (λj=>a1 (λi=>f i j) m) n
 | 0=>by simp only[a1];rw[pQ λ_ _=>rfl]
 | m+1=>by simp only[a1];rw[Dl f n m,<-oD]
theorem S7(f g:Nat->Rat)(n:Nat):a1 (λi=>f i-g i) n=a1 f n-a1 g n:=by
 have:=oD f (λi=>(-1)*g i) n;rw[hY]at this;grind
theorem Dm{f g:Nat->Rat}:∀{n:Nat},(∀i,i<n->f i<=g i)->a1 f n<=a1 g n
 | 0,_=>sE
 | n+1,h=>by
   rw[a1,a1];have a:=Dm (n:=n) λi _=>h i (by omega);grind
theorem S5{f:Nat->Rat}{n:Nat}(h:∀i,i<n->0<=f i):0<=a1 f n:=by
 have:=Dm (f:=λ_=>0) (n:=n) h;rwa [pQ λ_ _=>rfl]at this
theorem S6{f:Nat->Rat}{n j:Nat}(a:j<n)(h:∀i,i<n->0<=f i)(b:0<f j):0<a1 f n:=by
 rw[ma a];have:0<=a1 (λi=>if i=j then 0 else f i) n:=S5 λi _=>by
  grind
 grind
def dL(p:Nat->Bool)(a:Nat->Nat):Nat->Option Nat
 | 0=>none
 | k+1=>match dL p a k with
   | none=>if p k=true then some k else none
   | some b=>if p k=true/\a k<a b then some k else some b
theorem zz{p:Nat->Bool}{a:Nat->Nat}:∀{n:Nat},dL p a n=none->∀j,j<n->p j=false
 | 0,_,j,b=>absurd b (hz _)
 | n+1,h,j,_=>by
   rw[dL]at h
   cases e:dL p a n with
   | none=>
     rw[e]at h;simp only at h;by_cases a:p n=true
     ·grind
     ·by_cases a:j=n
      ·grind
      ·exact zz e j (by omega)
   | some _=>
     grind
theorem lr{p:Nat->Bool}{a:Nat->Nat}:∀{n b:Nat},dL p a n=some b->b<n/\p b=true/\∀j,j<n->p j=true->a b<=a j
 | 0,_,h=>by cases h
 | n+1,b,h=>by
   rw[dL]at h
   cases e:dL p a n with
   | none=>
     rw[e]at h;simp only at h;by_cases b:p n=true
     ·rw[aT b]at h;cases h;refine⟨by omega,b,λj _ c=>?_⟩;by_cases d:j=n
      ·subst d;exact bg _
      ·have:=zz e j (by omega);rw[this]at c;cases c
     grind
   | some _=>
     rw[e]at h;obtain⟨_,_,_⟩:=lr e;grind
section
variable{dh:Nat->Nat->Prop}{iX cJ:Nat->Nat}{L:Nat}
theorem Gp(b:∀t,t<L->∀x,dh (t+1) x↔(x=cJ t∨(dh t x/\x≠iX t))){x a:Nat}:∀d,a+d<=L->¬dh a x->dh (a+d) x->∃u,a<=u/\u<a+d/\cJ u=x
 | 0,_,a,c=>absurd c a
 | d+1,_,e,c=>by
   have c:dh (a+d+1) x:=c;rcases(b (a+d) (by omega) x).1 c with h | ⟨h,_⟩
   ·grind
   ·obtain⟨u,b,_,_⟩:=Gp b d (by omega) e h;grind
theorem Gq(b:∀t,t<L->∀x,dh (t+1) x↔(x=cJ t∨(dh t x/\x≠iX t))){x a:Nat}:∀d,a+d<=L->dh a x->¬dh (a+d) x->∃u,a<=u/\u<a+d/\iX u=x
 | 0,_,a,c=>absurd a c
 | d+1,_,e,c=>by
   have c:¬dh (a+d+1) x:=c;by_cases c:dh (a+d) x
   ·grind
   ·obtain⟨u,b,_,_⟩:=Gq b d (by omega) e c;grind
theorem IL{p:Nat->Prop}{a b:Nat}(f:a<=b)(f:p b):∃c,a<=c/\c<=b/\p c/\∀u,a<=u->u<c->¬p u:=by
 obtain⟨d,rfl⟩:∃d,b=a+d:=⟨b-a,by omega⟩
 induction d using Nat.strongRecOn with
 | _ d ih=>
   by_cases h:∃u,a<=u/\u<a+d/\p u
   ·obtain⟨u,_,_,b⟩:=h;obtain⟨e,rfl⟩:∃e,u=a+e:=⟨u-a,by omega⟩;obtain⟨c,d,_,f,g⟩:=ih e (by omega) (by omega) b;exact⟨c,d,by omega,f,g⟩
   grind
theorem zJ(d:∀t,t<L->∀x,dh (t+1) x↔(x=cJ t∨(dh t x/\x≠iX t)))(i:∀t,t<L->dh t (iX t)/\¬dh t (cJ t))
 (m:∀s t r,s<t->t<L->iX s=r->cJ t=r->(∀u,s<=u->u<=t->iX u<=r/\cJ u<=r)->(∀u,s<u->u<t->cJ u≠r)->False):
 ∀K a,(∀u,a<=u->u<a+3^K->iX u<K/\cJ u<K)->a+3^K<=L->False
 | 0,a,h,_=>absurd (h a (bg _) (by simp)).1 (hz _)
 | K+1,a,n,_=>by
   have b:3^(K+1)=3^K+3^K+3^K:=by rw[dH];omega
   have b:0<3^K:=qN (by decide);generalize o:3^K=q at*
   have j:∀b,a<=b->b+q<=a+3^(K+1)->∃u,b<=u/\u<b+q/\(iX u=K∨cJ u=K):=by
    intro b r _;apply lW;intro _;refine zJ d i m K b (λu _ a=>?_) (by rw[o];omega);rw[o]at a;obtain⟨_,_⟩:=n u (by omega) (by omega);refine⟨?_,?_⟩
    ·grind
    ·grind
   have b:∀s t,a<=s->s<t->t<a+3^(K+1)->iX s=K->cJ t=K->False:=by
    intro s t _ a b k l;obtain⟨h,_,_,v,w⟩:=IL (p:=λu=>cJ u=K) (show s+1<=t from a) l;refine m s h K (by omega) (by omega) k v (λu a h=>?_) λu a h=>w u a h;obtain⟨_,_⟩:=n u (by omega) (by omega);omega
   obtain⟨c,_,_,e⟩:=j a (bg _) (by omega);obtain⟨f,_,_,g⟩:=j (a+q) (by omega) (by omega);obtain⟨_,_,_,_⟩:=j (a+q+q) (by omega) (by omega);have k:∀t,t<L->iX t=K->¬dh (t+1) K:=λt b j r=>by
    grind
   have l:∀t,t<L->cJ t=K->dh (t+1) K:=λt b j=>(d t b K).2 (.inl j.symm);have j:∀s t,a<=s->s<t->t<a+3^(K+1)->iX s=K->(iX t=K∨cJ t=K)->False:=by
    intro s t _ _ b p h
    rcases h with h | h
    ·obtain⟨u,_,_,_⟩:=Gp d (a:=s+1) (x:=K) (t-(s+1)) (by omega) (k s (by omega) p) (by
      rw[show s+1+(t-(s+1))=t by omega,<-h];exact(i t (by omega)).1)
     grind
    ·grind
   rcases e with e | e
   ·grind
   ·rcases g with g | g
    ·grind
    ·obtain⟨u,_,_,_⟩:=Gq d (a:=c+1) (x:=K) (f-(c+1)) (by omega) (l c (by omega) e) (by
      rw[show c+1+(f-(c+1))=f by omega,<-g];exact(i f (by omega)).2)
     grind
end
structure bu where
 n:Nat
 m:Nat
 ah:Nat->Option Rat
 up:Nat->Option Rat
 A:Nat->Nat->Rat
structure bd where
 v:Nat->Rat
 rows:Nat->Nat
 a:Nat->Nat
 M:Nat->Nat->Rat
def rl(P:bu)(z:Nat->Rat):Prop:=∀i,i<P.m->z (P.n+i)=a1 (λj=>P.A i j*z j) P.n
def tu(P:bu)(T:bd)(z:Nat->Rat):Prop:=∀i,i<P.m->z (T.rows i)=a1 (λk=>T.M i k*z (T.a k)) P.n
structure dx(P:bu)(T:bd):Prop where
 r:∀i,i<P.m->T.rows i<P.n+P.m
 c:∀k,k<P.n->T.a k<P.n+P.m
 k6:∀i j,i<P.m->j<P.m->T.rows i=T.rows j->i=j
 ci:∀i j,i<P.n->j<P.n->T.a i=T.a j->i=j
 rc:∀i k,i<P.m->k<P.n->T.rows i≠T.a k
 iR:∀x,x<P.n+P.m->(∃i,i<P.m/\T.rows i=x)∨∃k,k<P.n/\T.a k=x
structure Inv(P:bu)(T:bd):Prop where
 y:dx P T
 dD:∀z,rl P z↔tu P T z
 val:rl P T.v
 sum:∀f:Nat->Rat,a1 (λk=>f (T.a k)) P.n+a1 (λi=>f (T.rows i)) P.m=a1 f P.n+a1 (λi=>f (P.n+i)) P.m
def dO(T:bd)(a af k:Nat):Rat:=if k=af then 1/T.M a af else -(T.M a k)/T.M a af
def bd.r0(T:bd)(a af:Nat):bd where
 v:=T.v
 rows:=λi=>if i=a then T.a af else T.rows i
 a:=λk=>if k=af then T.rows a else T.a k
 M:=λi k=>if i=a then dO T a af k else if k=af then T.M i af*dO T a af af else T.M i k+T.M i af*dO T a af k
def fj(T:bd)(af:Nat)(q:Rat):Nat->Nat->Rat
 | 0=>λx=>if x=T.a af then T.v x+q else T.v x
 | i+1=>λx=>if x=T.rows i then fj T af q i x+T.M i af*q else fj T af q i x
def bd.e6(P:bu)(T:bd)(af:Nat)(q:Rat):bd:={T with v:=fj T af q P.m}
section
variable{P:bu}{T:bd}
theorem dx.r0(h:dx P T){a af:Nat}(eA:a<P.m)(d:af<P.n):dx P (T.r0 a af) where
 r:=λi b=>by
  show(if i=a then _ else _)<_;split
  ·exact h.c af d
  ·exact h.r i b
 c:=λk f=>by
  show(if k=af then _ else _)<_;split
  ·exact h.r a eA
  ·exact h.c k f
 k6:=λi j b g e=>by
  have e:(if i=a then T.a af else T.rows i)=(if j=a then T.a af else T.rows j):=e;by_cases c:i=a<;>by_cases l:j=a<;>simp only[c,l,if_true,if_false]at e
  ·omega
  ·exact absurd e.symm (h.rc j af g d)
  ·exact absurd e (h.rc i af b d)
  ·exact h.k6 i j b g e
 ci:=λi j b g e=>by
  have e:(if i=af then T.rows a else T.a i)=(if j=af then T.rows a else T.a j):=e;by_cases c:i=af<;>by_cases l:j=af<;>simp only[c,l,if_true,if_false]at e
  ·omega
  ·exact absurd e (h.rc a j eA g)
  ·exact absurd e.symm (h.rc a i eA b)
  ·exact h.ci i j b g e
 rc:=λi k b f e=>by
  have e:(if i=a then T.a af else T.rows i)=(if k=af then T.rows a else T.a k):=e;by_cases c:i=a<;>by_cases g:k=af<;>simp only[c,g,if_true,if_false]at e
  ·exact absurd e.symm (h.rc a af eA d)
  ·exact g (h.ci _ _ f d e.symm)
  ·exact c (h.k6 _ _ b eA e)
  ·exact h.rc i k b f e
 iR:=λx m=>by
  rcases h.iR x m with⟨i,b,e⟩ | ⟨k,f,e⟩
  ·by_cases c:i=a
   ·exact .inr ⟨af,d,by show(if af=af then _ else _)=x;grind⟩
   ·exact .inl ⟨i,b,by show(if i=a then _ else _)=x;grind⟩
  ·by_cases b:k=af
   ·exact .inl ⟨a,eA,by show(if a=a then _ else _)=x;grind⟩
   ·exact .inr ⟨k,f,by show(if k=af then _ else _)=x;grind⟩
theorem tu.r0(_:dx P T){a af:Nat}(eA:a<P.m)(g:af<P.n)(n:T.M a af≠0)(z:Nat->Rat):tu P T z↔tu P (T.r0 a af) z:=by
 obtain⟨p,c⟩:∃p,p=T.M a af:=⟨_,rfl⟩;have d:∀(f:Nat->Rat),a1 (λk=>f k*z ((T.r0 a af).a k)) P.n=f af*z (T.rows a)+a1 (λk=>if k=af then 0 else f k*z (T.a k)) P.n:=λf=>by
  rw[ma g];congr 1
  ·show f af*z (if af=af then _ else _)=_;rw[aT rfl]
  ·refine ew λk _=>?_;by_cases e:k=af
   ·simp[e]
   ·show(if k=af then 0 else f k*z (if k=af then _ else _))=_;grind
 have j:∀(f:Nat->Rat),a1 (λk=>f k*z (T.a k)) P.n=f af*z (T.a af)+a1 (λk=>if k=af then 0 else f k*z (T.a k)) P.n:=λf=>ma g;obtain⟨R,b⟩:∃R:(Nat->Rat)->Rat,∀f,R f=a1 (λk=>if k=af then 0 else f k*z (T.a k)) P.n:=⟨_,λ_=>rfl⟩;have f:R (dO T a af)=-(1/p)*R (T.M a):=by
  rw[b,b,<-hY];refine ew λk _=>?_;by_cases e:k=af
  ·grind
  ·simp only[e,if_false,dO,<-c];grind
 have l:z (T.rows a)=a1 (λk=>T.M a k*z (T.a k)) P.n↔z (T.a af)=a1 (λk=>dO T a af k*z ((T.r0 a af).a k)) P.n:=by
  rw[d,j,<-b,<-b,f];have e:dO T a af af=1/p:=by simp[dO,c]
  rw[e,<-c];have e:p≠0:=by rw[c];exact n
  constructor<;>intro _<;>grind
 have m:∀i,i≠a->z (T.a af)=a1 (λk=>dO T a af k*z ((T.r0 a af).a k)) P.n->a1 (λk=>(T.r0 a af).M i k*z ((T.r0 a af).a k)) P.n=a1 (λk=>T.M i k*z (T.a k)) P.n:=by
  intro i e c;rw[d]at c;rw[d,j,<-b];rw[<-b]at c|-;have h:(T.r0 a af).M i af=T.M i af*dO T a af af:=by
   show(if i=a then _ else if af=af then _ else _)=_;rw[aC e,aT rfl]
  have c:R ((T.r0 a af).M i)=R (T.M i)+T.M i af*R (dO T a af):=by
   rw[b,b,b,<-hY,<-oD];refine ew λk _=>?_;by_cases e:k=af
   ·grind
   ·show(if k=af then 0 else(if i=a then _ else if k=af then _ else _)*_)=_;grind
  rw[h,c];grind
 constructor
 ·intro h i o;by_cases e:i=a
  ·subst e;have:=l.1 (h i eA);show z (if i=i then _ else _)=a1 (λk=>(if i=i then _ else _)*_) P.n;grind
  ·show z (if i=a then _ else _)=_;rw[aC e,m i e (l.1 (h a eA))];exact h i o
 ·intro h;have b:z (T.a af)=a1 (λk=>dO T a af k*z ((T.r0 a af).a k)) P.n:=by
   have:=h a eA;have:z (if a=a then T.a af else T.rows a)=a1 (λk=>(if a=a then dO T a af k else _)*z ((T.r0 a af).a k)) P.n:=this;simp only[if_true]at this;exact this
  intro i c;by_cases e:i=a
  ·grind
  ·have:=h i c;rw[m i e b]at this;have:z (if i=a then T.a af else T.rows i)=_:=this;grind
theorem Inv.r0(h:Inv P T){a af:Nat}(eA:a<P.m)(b:af<P.n)(c:T.M a af≠0):Inv P (T.r0 a af):=
 ⟨h.y.r0 eA b,λz=>(h.dD z).trans (tu.r0 h.y eA b c z),h.val,λf=>by
  rw[<-h.sum f,ma b,ma (f:=λk=>f (T.a k)) b,ma eA,ma (f:=λi=>f (T.rows i)) eA];have b:a1 (λk=>if k=af then 0 else f ((T.r0 a af).a k)) P.n=a1 (λk=>if k=af then 0 else f (T.a k)) P.n:=ew λk _=>by
   by_cases e:k=af
   ·simp[e]
   ·simp only[e,if_false];show f (if k=af then _ else _)=_;rw[aC e]
  have c:a1 (λi=>if i=a then 0 else f ((T.r0 a af).rows i)) P.m=a1 (λi=>if i=a then 0 else f (T.rows i)) P.m:=ew λk _=>by
   by_cases e:k=a
   ·simp[e]
   ·simp only[e,if_false];show f (if k=a then _ else _)=_;rw[aC e]
  rw[b,c];have b:f ((T.r0 a af).a af)=f (T.rows a):=by show f (if af=af then _ else _)=_;rw[aT rfl]
  have b:f ((T.r0 a af).rows a)=f (T.a af):=by show f (if a=a then _ else _)=_;rw[aT rfl]
  grind⟩
theorem BO(h:dx P T){af:Nat}(a:af<P.n){q:Rat}{i:Nat}(aJ:i<P.m):∀k,k<=P.m->fj T af q k (T.rows i)=if i<k then T.v (T.rows i)+T.M i af*q else T.v (T.rows i)
 | 0,_=>by simp[fj,h.rc i af aJ a]
 | k+1,_=>by
   show(if T.rows i=T.rows k then fj T af q k (T.rows i)+T.M k af*q else fj T af q k (T.rows i))=_;rw[BO h a aJ k (by omega)];by_cases e:i=k
   ·subst e;simp
   ·have:T.rows i≠T.rows k:=λa=>e (h.k6 i k aJ (by omega) a);grind
theorem Jb(h:dx P T){af:Nat}(b:af<P.n){q:Rat}{j:Nat}(a:j<P.n):∀k,k<=P.m->fj T af q k (T.a j)=if j=af then T.v (T.a j)+q else T.v (T.a j)
 | 0,_=>by
   show(if T.a j=T.a af then _ else _)=_;by_cases e:j=af
   ·simp[e]
   ·rw[aC e,aC λc=>e (h.ci j af a b c)]
 | k+1,_=>by
   show(if T.a j=T.rows k then fj T af q k (T.a j)+T.M k af*q else fj T af q k (T.a j))=_;rw[aC λe=>h.rc k j (by omega) a e.symm,Jb h b a k (by omega)]
theorem BP(h:dx P T){af:Nat}(a:af<P.n){q:Rat}{i:Nat}(aJ:i<P.m):(T.e6 P af q).v (T.rows i)=T.v (T.rows i)+T.M i af*q:=by
 have:=BO h a (q:=q) aJ P.m (bg _);rwa [aT aJ]at this
theorem r8(h:dx P T){af:Nat}(a:af<P.n){q:Rat}{j:Nat}(b:j<P.n):(T.e6 P af q).v (T.a j)=if j=af then T.v (T.a j)+q else T.v (T.a j):=Jb h a b P.m (bg _)
theorem Inv.e6(h:Inv P T){af:Nat}(a:af<P.n)(q:Rat):Inv P (T.e6 P af q):=by
 refine⟨⟨h.y.r,h.y.c,h.y.k6,h.y.ci,h.y.rc,h.y.iR⟩,h.dD,?_,h.sum⟩;refine(h.dD _).2 λi b=>?_;have c:=(h.dD _).1 h.val i b;rw[BP h.y a b,c,ma a,ma (f:=λk=>T.M i k*(T.e6 P af q).v (T.a k)) a,r8 h.y a a,aT rfl];have:a1 (λk=>if k=af then 0 else T.M i k*(T.e6 P af q).v (T.a k)) P.n=a1 (λk=>if k=af then 0 else T.M i k*T.v (T.a k)) P.n:=ew λk b=>by
  by_cases e:k=af
  ·simp[e]
  ·simp only[e,if_false,r8 h.y a b]
 grind
end
def mN(P:bu)(v:Nat->Rat)(x:Nat):Int:=match P.up x with
 | some u=>if u<v x then -1 else 0
 | none=>0
def off(P:bu)(v:Nat->Rat)(x:Nat):Int:=match P.ah x with
 | some l=>if v x<l then 1 else mN P v x
 | none=>mN P v x
def can(P:bu)(v:Nat->Rat)(x:Nat)(aG:Int):Bool:=if 0<aG then(match P.up x with
    | none=>true
    | some u=>decide (v x<u)) else(match P.ah x with
    | none=>true
    | some l=>decide (l<v x))
def js(P:bu)(v:Nat->Rat)(x:Nat):Prop:=(∀l,P.ah x=some l->l<=v x)/\∀u,P.up x=some u->v x<=u
theorem JB{P:bu}{v:Nat->Rat}{x:Nat}(h:off P v x=0):js P v x:=by
 unfold off mN at h;refine⟨λl a=>?_,λ_ _=>?_⟩
 ·rw[a]at h;simp only at h;by_cases a:v x<l
  ·rw[aT a]at h;omega
  ·exact pD.1 a
 grind
theorem sg{P:bu}{v:Nat->Rat}{x:Nat}(h:off P v x≠0):(off P v x=1/\∃l,P.ah x=some l/\v x<l)∨(off P v x=-1/\∃u,P.up x=some u/\u<v x):=by
 have a:mN P v x≠0->(mN P v x=-1/\∃u,P.up x=some u/\u<v x):=by
  unfold mN
  cases a:P.up x with
  | none=>simp
  | some u=>
    simp only;by_cases a:u<v x
    ·simp[a]
    ·simp[a]
 unfold off at h|-;grind
theorem zQ{P:bu}{v:Nat->Rat}{x:Nat}{w:Int}(a:0<w)(h:can P v x w=false):∃u,P.up x=some u/\u<=v x:=by
 unfold can at h;grind
theorem zP{P:bu}{v:Nat->Rat}{x:Nat}{w:Int}(a:¬0<w)(h:can P v x w=false):∃l,P.ah x=some l/\v x<=l:=by
 unfold can at h;grind
theorem tR{P:bu}{v:Nat->Rat}{x:Nat}{w:Int}(a:0<w)(h:can P v x w=true):∀u,P.up x=some u->v x<u:=by
 intro u _;unfold can at h;grind
theorem tQ{P:bu}{v:Nat->Rat}{x:Nat}{w:Int}(a:¬0<w)(h:can P v x w=true):∀l,P.ah x=some l->l<v x:=by
 intro _ _;unfold can at h;grind
section
variable{α:Type}(f:α->Option α)
def e5:Nat->α->Option α
 | 0,a=>some a
 | k+1,a=>match f a with
   | none=>none
   | some b=>e5 k b
def Ends(a:α):Prop:=∃k,e5 f k a=none
variable{f}
theorem Ends.next{a b:α}(h:Ends f a)(e:f a=some b):Ends f b:=by
 obtain⟨k,a⟩:=h
 cases k with
 | zero=>cases a
 | succ k=>
   rw[e5,e]at a;exact⟨k,a⟩
theorem Ends.least{a:α}(h:Ends f a):∃k,e5 f k a=none/\∀j,j<k->e5 f j a≠none:=by
 obtain⟨k,b⟩:=h;obtain⟨_,_,_,_,_⟩:=IL (p:=λk=>e5 f k a=none) (Nat.zero_le k) b;grind
open Classical in
noncomputable def left(f:α->Option α)(a:α):Nat:=if h:Ends f a then Classical.choose (Ends.least h) else 0
theorem IM{a b:α}(h:Ends f a)(e:f a=some b):left f b<left f a:=by
 have a:=h.next e;unfold left;rw[dif_pos h,dif_pos a];obtain⟨b,_⟩:=pE h.least;obtain⟨_,_⟩:=pE a.least;generalize Classical.choose h.least=n at*
 generalize Classical.choose a.least=m at*
 cases n with
 | zero=>cases b
 | succ n=>
   rw[e5,e]at b;grind
theorem KK{a:α}(h:¬Ends f a):∃c:Nat->α,c 0=a/\∀t,f (c t)=some (c (t+1)):=by
 have c:∀(k:Nat) (a:α),e5 f (k+1) a=(match e5 f k a with | none=>none | some b=>f b):=by
  intro k
  induction k with
  | zero=>intro a;cases e:f a<;>simp[e5,e]
  | succ k ih=>
    intro a;rw[e5]
    cases e:f a with
    | none=>simp only[e5,e]
    | some b=>simp only;rw[ih b];simp only[e5,e]
 have d:∀k,∃b,e5 f k a=some b:=λk=>by
  cases e:e5 f k a with
  | none=>exact absurd ⟨k,e⟩ h
  | some b=>exact⟨b,rfl⟩
 refine⟨λk=>Classical.choose (d k),?_,λt=>?_⟩
 ·have:=pE (d 0);exact(jF this).symm
 grind
end
def kv(P:bu)(T:bd):Option Nat:=dL (λi=>decide (off P T.v (T.rows i)≠0)) T.rows P.m
def kM(P:bu)(T:bd)(a:Nat)(aG:Int):Option Nat:=dL (λk=>decide (T.M a k≠0)&&can P T.v (T.a k) (aG*ck (T.M a k))) T.a P.n
def goal(P:bu)(x:Nat)(aG:Int):Rat:=if aG<0 then(P.up x).getD 0 else(P.ah x).getD 0
def qh(P:bu)(T:bd)(a af:Nat):Rat:=(goal P (T.rows a) (off P T.v (T.rows a))-T.v (T.rows a))/T.M a af
def gW(P:bu)(T:bd)(a af:Nat):bd:=(T.e6 P af (qh P T a af)).r0 a af
def hr(P:bu)(T:bd):Option bd:=match kv P T with
 | none=>none
 | some a=>(match kM P T a (off P T.v (T.rows a)) with
   | none=>none
   | some b=>some (gW P T a b))
def ri(P:bu)(T:bd):Prop:=∀k,k<P.n->js P T.v (T.a k)
structure nD(P:bu)(T:bd)(a af:Nat):Prop where
 eA:a<P.m
 da:af<P.n
 off:off P T.v (T.rows a)≠0
 zx:∀i,i<P.m->C.off P T.v (T.rows i)≠0->T.rows a<=T.rows i
 mT:T.M a af≠0
 can:can P T.v (T.a af) (C.off P T.v (T.rows a)*ck (T.M a af))=true
 tV:∀k,k<P.n->T.M a k≠0->C.can P T.v (T.a k) (C.off P T.v (T.rows a)*ck (T.M a k))=true->T.a af<=T.a k
theorem HD{P:bu}{T c:bd}(h:hr P T=some c):∃a af,nD P T a af/\c=gW P T a af:=by
 unfold hr at h;split at h
 ·cases h
 ·rename_i a g;split at h
  ·cases h
  ·rename_i af i;obtain⟨j,d,e⟩:=lr g;obtain⟨k,b,f⟩:=lr i;simp only[b3,df]at d e b f;exact⟨a,af,⟨j,k,d,e,b.1,b.2,λl m n o=>f l m ⟨n,o⟩⟩,(jF h).symm⟩
section
variable{P:bu}
theorem jH{q:Rat}(h:q≠0):(0<q/\ck q=1)∨(q<0/\ck q=-1):=by
 unfold ck;grind
theorem OM{x:Nat}{v w:Nat->Rat}{M:Rat}{aG:Int}(h:M≠0)(i:aG=1∨aG=-1)(c:can P v x (aG*ck M)=false)(d:js P w x):(aG:Rat)*(M*(w x-v x))<=0:=by
 have f:∀u,P.up x=some u->u<=v x->w x-v x<=0:=λu a b=>by have:=d.2 u a;grind
 have g:∀l,P.ah x=some l->v x<=l->0<=w x-v x:=λu a b=>by have:=d.1 u a;grind
 rcases jH h with⟨ez,e⟩ | ⟨ez,e⟩<;>rcases i with rfl | rfl<;>rw[e]at c
 ·obtain⟨u,a,b⟩:=zQ (by decide) c;have:=f u a b;have:0<=M*(v x-w x):=im (iu ez) (by grind);simp;grind
 ·obtain⟨u,a,b⟩:=zP (by decide) c;have:=g u a b;have:0<=M*(w x-v x):=im (iu ez) this;simp;grind
 ·obtain⟨u,a,b⟩:=zP (by decide) c;have:=g u a b;have:0<=(-M)*(w x-v x):=im (by grind) this;simp;grind
 ·obtain⟨u,a,b⟩:=zQ (by decide) c;have:=f u a b;have:0<=(-M)*(v x-w x):=im (by grind) (by grind);simp;grind
theorem Qf{x:Nat}{v w:Nat->Rat}{M:Rat}{aG:Int}(b:M≠0)(c:aG=1∨aG=-1)(f:off P w x≠0)(a:v x=goal P x (off P w x))(d:can P v x (aG*ck M)=true):(aG:Rat)*(M*(w x-v x))<=0:=by
 unfold goal at a
 rcases sg f with⟨e4,l,g',bX⟩ | ⟨e4,u,hu,bX⟩
 ·rw[e4,aC (by decide),g']at a;simp only[jf]at a;have f:w x-v x<0:=by grind
  have f:¬(aG*ck M=-1):=λh=>by
   have:=tQ (by rw[h];decide) d l g';grind
  rcases jH b with⟨ez,e⟩ | ⟨ez,e⟩<;>rcases c with rfl | rfl
  ·have:0<=M*(v x-w x):=im (iu ez) (by grind);simp;grind
  ·grind
  ·grind
  ·have:0<=(-M)*(v x-w x):=im (by grind) (by grind);simp;grind
 ·rw[e4,aT (by decide),hu]at a;simp only[jf]at a;have a:0<w x-v x:=by grind
  have g:¬(aG*ck M=1):=λh=>by
   have:=tR (by rw[h];decide) d u hu;grind
  rcases jH b with⟨ez,e⟩ | ⟨ez,e⟩<;>rcases c with rfl | rfl
  ·exact absurd (by rw[e];rfl) g
  ·have:0<=M*(w x-v x):=im (iu ez) (by grind);simp;grind
  ·have:0<=(-M)*(w x-v x):=im (by grind) (by grind);simp;grind
  grind
theorem xH{v:Nat->Rat}{x:Nat}(h:off P v x≠0):off P v x=1∨off P v x=-1:=(sg h).imp (·.1) (·.1)
theorem T6{x:Nat}{v w:Nat->Rat}(b:off P v x≠0)(a:js P w x):0<(off P v x:Rat)*(w x-v x):=by
 rcases sg b with⟨e4,l,g',bX⟩ | ⟨e4,u,hu,bX⟩
 ·rw[e4];have:=a.1 l g';simp;grind
 ·rw[e4];have:=a.2 u hu;simp;grind
def tn(P:bu):Prop:=∀x l u,P.ah x=some l->P.up x=some u->l<=u
theorem OJ(b:tn P){v w:Nat->Rat}{x:Nat}(c:off P v x≠0)(a:w x=goal P x (off P v x)):js P w x:=by
 unfold goal at a
 rcases sg c with⟨e4,l,g',bX⟩ | ⟨e4,u,hu,bX⟩
 ·rw[e4,aC (by decide),g']at a;simp only[jf]at a;refine⟨λ_ h=>?_,λu h=>?_⟩
  ·grind
  ·rw[a];exact b x l u g' h
 ·rw[e4,aT (by decide),hu]at a;simp only[jf]at a;refine⟨λl h=>?_,λ_ h=>?_⟩
  ·rw[a];exact b x l u h hu
  grind
theorem AI{T:bd}(h:Inv P T){a af:Nat}(g:nD P T a af):(gW P T a af).v (T.rows a)=goal P (T.rows a) (off P T.v (T.rows a)):=by
 show(T.e6 P af _).v (T.rows a)=_;rw[BP h.y g.da g.eA,qh];have:=g.mT;grind
theorem HE{T:bd}(h:Inv P T){a af:Nat}(g:nD P T a af):Inv P (gW P T a af):=(h.e6 g.da _).r0 g.eA g.da g.mT
theorem HF(c:tn P){T:bd}(h:Inv P T)(d:ri P T){a af:Nat}(g:nD P T a af):ri P (gW P T a af):=by
 intro k b;show js P (gW P T a af).v (if k=af then T.rows a else T.a k);by_cases e:k=af
 ·rw[aT e];exact OJ c g.off (AI h g)
 ·rw[aC e];have:(gW P T a af).v (T.a k)=T.v (T.a k):=by
   show(T.e6 P af _).v (T.a k)=_;rw[r8 h.y g.da b,aC e]
  obtain⟨_,_⟩:=d k b;exact⟨λl a=>by grind,λl a=>by grind⟩
structure zl(P:bu)(st:Nat->bd)(a c:Nat->Nat)(L:Nat):Prop where
 go:∀t,t<L->nD P (st t) (a t) (c t)
 hc:∀t,t<L->st (t+1)=gW P (st t) (a t) (c t)
 inv:∀t,t<=L->Inv P (st t)
 QG:∀t,t<=L->ri P (st t)
def dh(P:bu)(T:bd)(x:Nat):Prop:=∃i,i<P.m/\T.rows i=x
theorem tI{T:bd}(h:dx P T){a af:Nat}(eA:a<P.m)(_:af<P.n)(x:Nat):dh P (T.r0 a af) x↔(x=T.a af∨(dh P T x/\x≠T.rows a)):=by
 constructor
 ·rintro⟨i,b,e⟩;have e:(if i=a then T.a af else T.rows i)=x:=e;by_cases c:i=a
  ·grind
  ·rw[aC c]at e;exact .inr ⟨⟨i,b,e⟩,λd=>c (h.k6 i a b eA (e.trans d))⟩
 ·rintro(rfl | ⟨⟨i,b,rfl⟩,_⟩)
  ·exact⟨a,eA,by show(if a=a then _ else _)=_;rw[aT rfl]⟩
  ·exact⟨i,b,by show(if i=a then _ else _)=_;grind⟩
theorem Je{T:bd}(h:dx P T){x:Nat}(a:x<P.n+P.m)(b:¬dh P T x):∃k,k<P.n/\T.a k=x:=(h.iR x a).resolve_left b
theorem zl.core{b:Nat->bd}{a c:Nat->Nat}{L:Nat}(R:zl P b a c L)(s t r:Nat)(B:s<t)(B:t<L)(g':(b s).rows (a s)=r)(C:(b t).a (c t)=r)
 (v:∀u,s<=u->u<=t->(b u).rows (a u)<=r/\(b u).a (c u)<=r) (D:∀u,s<u->u<t->(b u).a (c u)≠r):False:=by
 have g:=R.go s (by omega);have l:=R.go t B;have f:=R.inv s (by omega);have o:=R.inv t (by omega);have E:r<P.n+P.m:=by rw[<-g'];exact f.y.r _ g.eA
 have w:∀u,u<L->∀x,x<P.n+P.m->¬dh P (b u) x->x≠(b u).a (c u)->¬dh P (b (u+1)) x/\(b (u+1)).v x=(b u).v x:=by
  intro u r x m s t;have a:=R.go u r;have i:=R.inv u (by omega);obtain⟨k,n,rfl⟩:=Je i.y m s;rw[R.hc u r];refine⟨λh=>?_,?_⟩
  ·rcases(tI (T:=(b u).e6 P (c u) _) ⟨i.y.r,i.y.c,i.y.k6,i.y.ci,i.y.rc,i.y.iR⟩ a.eA a.da _).1 h with h | ⟨h,_⟩
   ·exact t h
   ·exact s h
  ·show((b u).e6 P (c u) _).v _=_;rw[r8 i.y a.da n,aC λe=>t (by rw[e])]
 have F:∀d,s+1+d<=t->¬dh P (b (s+1+d)) r/\(b (s+1+d)).v r=goal P r (off P (b s).v r):=by
  intro d
  induction d with
  | zero=>
    intro _;have e:=R.hc s (by omega);refine⟨λh=>?_,?_⟩
    ·have h:dh P (b (s+1)) r:=h;rw[e]at h;rcases(tI (T:=(b s).e6 P (c s) _) ⟨f.y.r,f.y.c,f.y.k6,f.y.ci,f.y.rc,f.y.iR⟩ g.eA g.da _).1 h with h | ⟨_,h⟩
     ·exact f.y.rc _ _ g.eA g.da (g'.trans h)
     ·exact h g'.symm
    ·show(b (s+1)).v r=_;rw[e,<-g'];exact AI f g
  | succ d ih=>
    intro _;obtain⟨a,c⟩:=ih (by omega);obtain⟨h,t⟩:=w (s+1+d) (by omega) r E a λe=>D _ (by omega) (by omega) e.symm;exact⟨h,t.trans c⟩
 obtain⟨y,z⟩:=F (t-(s+1)) (by omega);rw[show s+1+(t-(s+1))=t by omega]at y z;have G:∀j,r<j->j<P.n+P.m->∀d,s+d<=t->(dh P (b (s+d)) j↔dh P (b s) j)/\(¬dh P (b s) j->(b (s+d)).v j=(b s).v j):=by
  intro j _ u d
  induction d with
  | zero=>exact λ_=>⟨Iff.rfl,λ_=>rfl⟩
  | succ d ih=>
    intro _;obtain⟨r,H⟩:=ih (by omega);obtain⟨_,_⟩:=v (s+d) (by omega) (by omega);have t:=R.go (s+d) (by omega);have i:=R.inv (s+d) (by omega);have e:=R.hc (s+d) (by omega);have I:dh P (b (s+d+1)) j↔dh P (b (s+d)) j:=by
     rw[e];refine(tI (T:=(b (s+d)).e6 P (c (s+d)) _) ⟨i.y.r,i.y.c,i.y.k6,i.y.ci,i.y.rc,i.y.iR⟩ t.eA t.da _).trans ⟨λh=>?_,λh=>.inr ⟨h,?_⟩⟩
     ·rcases h with h | ⟨h,_⟩
      ·have:j=(b (s+d)).a (c (s+d)):=h;omega
      ·exact h
     ·show j≠(b (s+d)).rows (a (s+d));omega
    refine⟨I.trans r,λt=>?_⟩;exact(w (s+d) (by omega) j u (λh=>t (r.1 h)) (by omega)).2.trans (H t)
 have A:∀j,j<r->js P (b s).v j:=by
  intro j _
  rcases f.y.iR j (by omega) with⟨i,aJ,e⟩ | ⟨k,n,e⟩
  ·refine JB (lW λp=>?_);have:=g.zx i aJ (by rw[e];exact p);omega
  ·rw[<-e];exact R.QG s (by omega) k n
 obtain⟨x,m⟩:∃x,x=(b t).rows (a t):=⟨_,rfl⟩;have d:x<r:=by
  have c:=(v t (by omega) (bg _)).1;have c:x≠r:=λe=>y ⟨a t,l.eA,m.symm.trans e⟩;omega
 have q:=xH l.off;rw[<-m]at q;have p:=l.off;rw[<-m]at p;have j:=T6 p (A x d);have d:=(o.dD _).1 o.val (a t) l.eA;have j:=(o.dD _).1 f.val (a t) l.eA;rw[<-m]at d j;have f:(off P (b t).v x:Rat)*((b s).v x-(b t).v x)=a1 (λk=>(off P (b t).v x:Rat)*((b t).M (a t) k*((b s).v ((b t).a k)-(b t).v ((b t).a k)))) P.n:=by
  rw[hY,d,j,<-S7];congr 1;exact ew λk _=>by grind
 have d:a1 (λk=>(off P (b t).v x:Rat)*((b t).M (a t) k*((b s).v ((b t).a k)-(b t).v ((b t).a k)))) P.n<=0:=by
  have u:a1 (λ_=>(0:Rat)) P.n=0:=pQ λ_ _=>rfl;rw[<-u];refine Dm λk n=>?_;by_cases h:(b t).M (a t) k=0
  ·rw[h];have:(off P (b t).v x:Rat)*(0*((b s).v ((b t).a k)-(b t).v ((b t).a k)))=0:=by grind
   rw[this];exact sE
  ·have f:=o.y.c k n;by_cases d:(b t).a k=r
   ·have j:k=c t:=o.y.ci _ _ n l.da (d.trans C.symm);have a:=l.can;rw[<-m,<-j,d]at a;rw[d];exact Qf h q (by rw[<-g'];exact g.off) z a
   ·by_cases g:r<(b t).a k
    ·have j:¬dh P (b t) ((b t).a k):=λ⟨i,aJ,e⟩=>o.y.rc i k aJ n e;obtain⟨c,d⟩:=G _ g f (t-s) (by omega);rw[show s+(t-s)=t by omega]at c d;rw[d λd=>j (c.2 d)];have:(off P (b t).v x:Rat)*((b t).M (a t) k*((b s).v ((b t).a k)-(b s).v ((b t).a k)))=0:=by grind
     rw[this];exact sE
    ·refine OM h q ?_ (A _ (by omega));rw[m]
     cases c:can P (b t).v ((b t).a k) (off P (b t).v ((b t).rows (a t))*ck ((b t).M (a t) k)) with
     | false=>rfl
     | true=>
       have:=l.tV k n h c;omega
 grind
theorem Ot(f:tn P){T:bd}(h:Inv P T)(i:ri P T):Ends (hr P) T:=by
 apply lW;intro h;obtain⟨a,_,i⟩:=KK h;have b:∀t,∃p:Nat×Nat,nD P (a t) p.1 p.2/\a (t+1)=gW P (a t) p.1 p.2:=λt=>by
  obtain⟨g,h,d,e⟩:=HD (i t);exact⟨(g,h),d,e⟩
 have c:∀t,Inv P (a t)/\ri P (a t):=by
  intro t
  induction t with
  | zero=>grind
  | succ t ih=>
    obtain⟨p,g,h⟩:=b t;rw[h];exact⟨HE ih.1 g,HF f ih.1 ih.2 g⟩
 have R:zl P a (λt=>(Classical.choose (b t)).1) (λt=>(Classical.choose (b t)).2) (3^(P.n+P.m)):=
  ⟨λt _=>(pE (b t)).1,λt _=>(pE (b t)).2,λt _=>(c t).1,λt _=>(c t).2⟩
 refine zJ (dh:=λt x=>dh P (a t) x) (iX:=λt=>(a t).rows ((Classical.choose (b t)).1)) (cJ:=λt=>(a t).a ((Classical.choose (b t)).2)) (λt f x=>?_) (λt f=>?_) (λs t r d e b h i j=>R.core s t r d e b h i j) (P.n+P.m) 0 (λu _ _=>?_) (by omega)
 ·have g:=R.go t f;have i:=(c t).1;have b:∀e b d,e=gW P (a t) b d->nD P (a t) b d->(dh P e x↔(x=(a t).a d∨(dh P (a t) x/\x≠(a t).rows b))):=λe b d e g=>by
   rw[e];exact tI (T:=(a t).e6 P _ _) ⟨i.y.r,i.y.c,i.y.k6,i.y.ci,i.y.rc,i.y.iR⟩ g.eA g.da x
  grind
 ·have g:=R.go t f;have k:=(c t).1;exact⟨⟨_,g.eA,rfl⟩,λ⟨j,a,e⟩=>k.y.rc j _ a g.da e⟩
 ·have g:=R.go u (by omega);have i:=(c u).1;exact⟨i.y.r _ g.eA,i.y.c _ g.da⟩
end
def e2(P:bu)(c:Nat->Rat)(x:Nat):Rat:=if x<P.n then c x else 0
def red(P:bu)(c:Nat->Rat)(T:bd)(k:Nat):Rat:=e2 P c (T.a k)+a1 (λi=>e2 P c (T.rows i)*T.M i k) P.m
def obj(P:bu)(c:Nat->Rat)(z:Nat->Rat):Rat:=a1 (λj=>c j*z j) P.n
def room(P:bu)(v:Nat->Rat)(x:Nat)(aG:Int):Option Rat:=match (if 0<aG then P.up x else none) with
 | some u=>some (u-v x)
 | none=>(match (if aG<0 then P.ah x else none) with
   | some l=>some (v x-l)
   | none=>none)
def cX(q:Rat):Rat:=if q<0 then -q else q
structure fD where
 Y:Option Rat
 ind:Option Nat
 mg:Nat
def fD.add(f:fD)(q:Rat)(i x:Nat):fD:=match f.Y with
 | none=>⟨some q,some i,x⟩
 | some p=>if q<p∨(q=p/\x<f.mg) then⟨some q,some i,x⟩ else f
def dn(P:bu)(T:bd)(af:Nat)(aG:Int):Nat->fD
 | 0=>⟨room P T.v (T.a af) aG,none,T.a af⟩
 | i+1=>if T.M i af=0 then dn P T af aG i else match room P T.v (T.rows i) (aG*ck (T.M i af)) with
   | none=>dn P T af aG i
   | some r=>(dn P T af aG i).add (r/cX (T.M i af)) i (T.rows i)
def enters(P:bu)(c:Nat->Rat)(T:bd):Option Nat:=dL (λk=>decide (red P c T k≠0)&&can P T.v (T.a k) (-ck (red P c T k))) T.a P.n
def hp(P:bu)(c:Nat->Rat)(T:bd)(af:Nat):Int:=-ck (red P c T af)
def gU(P:bu)(T:bd)(af:Nat)(aG:Int)(q:Rat):Option Nat->bd
 | none=>T.e6 P af (if aG<0 then -q else q)
 | some a=>(T.e6 P af (if aG<0 then -q else q)).r0 a af
def gk(P:bu)(c:Nat->Rat)(T:bd):Option bd:=match enters P c T with
 | none=>none
 | some a=>(match (dn P T a (hp P c T a) P.m).Y with
   | none=>none
   | some q=>some (gU P T a (hp P c T a) q (dn P T a (hp P c T a) P.m).ind))
section
variable{P:bu}{c:Nat->Rat}{T:bd}
theorem xG(h:Inv P T){z:Nat->Rat}(b:rl P z):obj P c z=a1 (λk=>red P c T k*z (T.a k)) P.n:=by
 have a:=h.sum λx=>e2 P c x*z x;have d:a1 (λx=>e2 P c x*z x) P.n=obj P c z:=ew λ_ e=>by simp[e2,e]
 have e:a1 (λi=>e2 P c (P.n+i)*z (P.n+i)) P.m=0:=pQ λi _=>by
  have:¬P.n+i<P.n:=by omega
  simp[e2,this,Rat.zero_mul]
 rw[d,e]at a;have d:a1 (λi=>e2 P c (T.rows i)*z (T.rows i)) P.m=a1 (λk=>a1 (λi=>e2 P c (T.rows i)*T.M i k) P.m*z (T.a k)) P.n:=by
  have:a1 (λi=>e2 P c (T.rows i)*z (T.rows i)) P.m=a1 (λi=>a1 (λk=>e2 P c (T.rows i)*T.M i k*z (T.a k)) P.n) P.m:=ew λi e=>by
   rw[(h.dD z).1 b i e,<-hY];exact ew λk _=>by grind
  rw[this,Dl];refine ew λk _=>?_;have:a1 (λi=>e2 P c (T.rows i)*T.M i k*z (T.a k)) P.m=a1 (λi=>z (T.a k)*(e2 P c (T.rows i)*T.M i k)) P.m:=ew λi _=>by grind
  rw[this,hY];grind
 rw[d,<-oD]at a;have a:a1 (λk=>e2 P c (T.a k)*z (T.a k)+a1 (λi=>e2 P c (T.rows i)*T.M i k) P.m*z (T.a k)) P.n=a1 (λk=>red P c T k*z (T.a k)) P.n:=ew λk _=>by
  unfold red;grind
 grind
theorem N3{a b:Rat}(eA:0<=a)(c:0<b):0<=a/b:=by
 apply pD.1;intro _;have d:0<(-(a/b))*b:=Rat.mul_pos (by grind) c;have:a/b*b=a:=by grind
 grind
theorem jt{q:Rat}(h:q≠0):0<cX q:=by
 unfold cX;grind
theorem vg{v:Nat->Rat}{x:Nat}{r:Rat}(h:room P v x 1=some r):∃u,P.up x=some u/\r=u-v x:=by
 unfold room at h;grind
theorem vf{v:Nat->Rat}{x:Nat}{r:Rat}(h:room P v x (-1)=some r):∃l,P.ah x=some l/\r=v x-l:=by
 unfold room at h;grind
theorem C2{v:Nat->Rat}{x:Nat}{u:Rat}(h:P.up x=some u):room P v x 1=some (u-v x):=by
 unfold room;simp[h]
theorem C1{v:Nat->Rat}{x:Nat}{l:Rat}(h:P.ah x=some l):room P v x (-1)=some (v x-l):=by
 unfold room;simp[h]
theorem Kt{v:Nat->Rat}{x:Nat}{w:Int}(b:w=1∨w=-1)(a:js P v x){r:Rat}(h:room P v x w=some r):0<=r:=by
 rcases b with rfl | rfl
 ·obtain⟨u,c,rfl⟩:=vg h;have:=a.2 u c;grind
 ·obtain⟨u,c,rfl⟩:=vf h;have:=a.1 u c;grind
structure v'(P:bu)(T:bd)(af:Nat)(aG:Int)(k:Nat)(f:fD):Prop where
 xC:f.Y=none->room P T.v (T.a af) aG=none/\∀i,i<k->T.M i af≠0->room P T.v (T.rows i) (aG*ck (T.M i af))=none
 own:f.ind=none->f.Y=room P T.v (T.a af) aG/\f.mg=T.a af
 row:∀a,f.ind=some a->a<k/\T.M a af≠0/\f.mg=T.rows a/\∃r,room P T.v (T.rows a) (aG*ck (T.M a af))=some r/\f.Y=some (r/cX (T.M a af))
 xA:∀q,f.Y=some q->∀r,room P T.v (T.a af) aG=some r->q<=r/\(q=r->f.mg<=T.a af)
 min:∀q,f.Y=some q->∀i,i<k->T.M i af≠0->∀r,room P T.v (T.rows i) (aG*ck (T.M i af))=some r->q<=r/cX (T.M i af)/\(q=r/cX (T.M i af)->f.mg<=T.rows i)
theorem BG(P:bu)(T:bd)(af:Nat)(aG:Int):∀k,v' P T af aG k (dn P T af aG k)
 | 0=>by
   refine⟨λh=>⟨h,λi a=>absurd a (hz _)⟩,λ_=>⟨rfl,rfl⟩,λ_ h=>(by cases h),λq h _ b=>?_,λq h i a=>absurd a (hz _)⟩;have h:room P T.v (T.a af) aG=some q:=h;rw[h]at b;cases b;exact⟨sE,λ_=>bg _⟩
 | k+1=>by
   have ih:=BG P T af aG k;generalize m:dn P T af aG k=f at ih;have o:(∀r,T.M k af≠0->room P T.v (T.rows k) (aG*ck (T.M k af))=some r->∃q,f.Y=some q/\q<=r/cX (T.M k af)/\(q=r/cX (T.M k af)->f.mg<=T.rows k))->v' P T af aG (k+1) f:=λ_=>by
    refine⟨λh=>⟨(ih.xC h).1,λi c b=>?_⟩,ih.own,λd e=>?_,ih.xA,λq g i c b r a=>?_⟩
    ·by_cases j:i=k
     ·subst j
      cases a:room P T.v (T.rows i) (aG*ck (T.M i af)) with
      | none=>rfl
      | some r=>
        grind
     ·exact(ih.xC h).2 i (by omega) b
    ·obtain⟨_,_⟩:=ih.row d e;grind
    ·by_cases e:i=k
     ·grind
     ·exact ih.min q g i (by omega) b r a
   rw[dn,m];by_cases b:T.M k af=0
   ·grind
   ·rw[aC b]
    cases g:room P T.v (T.rows k) (aG*ck (T.M k af)) with
    | none=>grind
    | some r=>
      obtain⟨q,c⟩:∃q,q=r/cX (T.M k af):=⟨_,rfl⟩;simp only[<-c];have o:(∀p,f.Y=some p->q<p∨(q=p/\T.rows k<f.mg))->v' P T af aG (k+1) ⟨some q,some k,T.rows k⟩:=λj=>by
       refine⟨λh=>(by cases h),λh=>(by cases h),λ_ n=>?_,λo h d a=>?_,λo h i _ l d a=>?_⟩
       ·cases n;exact⟨by omega,b,rfl,r,g,by rw[c]⟩
       ·cases h
        cases e:f.Y with
        | none=>rw[(ih.xC e).1]at a;cases a
        | some p=>
          obtain⟨_,s⟩:=ih.xA p e d a
          rcases j p e with b | ⟨b,_⟩
          ·exact⟨by grind,λ_=>by grind⟩
          ·exact⟨by grind,λ_=>by have:=s (by grind);show T.rows k<=_;omega⟩
       ·cases h;by_cases s:i=k
        ·subst s;rw[g]at a;cases a;rw[<-c];exact⟨sE,λ_=>bg _⟩
        ·cases e:f.Y with
         | none=>rw[(ih.xC e).2 i (by omega) l]at a;cases a
         | some p=>
           obtain⟨_,t⟩:=ih.min p e i (by omega) l d a
           rcases j p e with a | ⟨a,_⟩
           ·exact⟨by grind,λ_=>by grind⟩
           ·exact⟨by grind,λ_=>by have:=t (by grind);show T.rows k<=_;omega⟩
      unfold fD.add;grind
structure gb(P:bu)(c:Nat->Rat)(T:bd)(af:Nat)(aG:Int)(f:fD)(q:Rat):Prop where
 da:af<P.n
 d:red P c T af≠0
 pV:aG=-ck (red P c T af)
 can:can P T.v (T.a af) aG=true
 tV:∀k,k<P.n->red P c T k≠0->C.can P T.v (T.a k) (-ck (red P c T k))=true->T.a af<=T.a k
 G:v' P T af aG P.m f
 Y:f.Y=some q
theorem Hb{b:bd}(h:gk P c T=some b):∃af aG f q,gb P c T af aG f q/\b=gU P T af aG q f.ind:=by
 unfold gk at h;split at h
 ·cases h
 ·rename_i af d;split at h
  ·cases h
  ·rename_i q e;obtain⟨f,a,c⟩:=lr d;simp only[b3,df]at a c;exact⟨af,_,_,q,⟨f,a.1,rfl,a.2,λk g i j=>c k g ⟨i,j⟩,BG P T af _ P.m,e⟩,(jF h).symm⟩
def th(P:bu)(T:bd):Prop:=∀x,x<P.n+P.m->js P T.v x
theorem gb.gx{af:Nat}{aG:Int}{f:fD}{q:Rat}(g:gb P c T af aG f q):aG=1∨aG=-1:=by
 rw[g.pV]
 rcases jH g.d with⟨_,e⟩ | ⟨_,e⟩<;>rw[e]<;>simp
theorem vn{aG:Int}(a:aG=1∨aG=-1){M:Rat}(b:M≠0):(aG*ck M=1/\(aG:Rat)*M=cX M)∨(aG*ck M=-1/\(aG:Rat)*M=-cX M):=by
 unfold cX
 rcases jH b with⟨ez,e⟩ | ⟨ez,e⟩<;>rcases a with rfl | rfl<;>rw[e]
 ·left;rw[aC (by grind)];refine⟨by decide,?_⟩;simp;try grind
 ·right;rw[aC (by grind)];refine⟨by decide,?_⟩;simp;try grind
 ·right;rw[aT ez];refine⟨by decide,?_⟩;simp;try grind
 grind
theorem yy{aG:Int}(a:aG=1∨aG=-1){M:Rat}(b:M≠0):aG*ck M=1∨aG*ck M=-1:=(vn a b).imp (·.1) (·.1)
theorem LK{aG:Int}(a:aG=1∨aG=-1)(q:Rat):(if aG<0 then -q else q)=(aG:Rat)*q:=by
 rcases a with rfl | rfl
 ·simp
 ·simp;grind
theorem gb.Cu(a:th P T)(h:dx P T){af:Nat}{aG:Int}{f:fD}{q:Rat}(g:gb P c T af aG f q):0<=q:=by
 cases b:f.ind with
 | none=>
   have:=(g.G.own b).1;rw[g.Y]at this;exact Kt g.gx (a _ (h.c _ g.da)) this.symm
 | some e=>
   obtain⟨f,c,_,_,i,d⟩:=g.G.row e b;rw[g.Y]at d;cases d;have:=Kt (yy g.gx c) (a _ (h.r _ f)) i;exact N3 this (jt c)
theorem gb.vx(h:dx P T){af:Nat}{aG:Int}{f:fD}{q:Rat}(g:gb P c T af aG f q){k:Nat}(a:k<P.n):(gU P T af aG q f.ind).v (T.a k)=if k=af then T.v (T.a k)+(aG:Rat)*q else T.v (T.a k):=by
 have:(gU P T af aG q f.ind).v=(T.e6 P af (if aG<0 then -q else q)).v:=by cases f.ind<;>rfl
 rw[this,r8 h g.da a,LK g.gx]
theorem gb.LH(h:dx P T){af:Nat}{aG:Int}{f:fD}{q:Rat}(g:gb P c T af aG f q){i:Nat}(aJ:i<P.m):(gU P T af aG q f.ind).v (T.rows i)=T.v (T.rows i)+(aG:Rat)*T.M i af*q:=by
 have:(gU P T af aG q f.ind).v=(T.e6 P af (if aG<0 then -q else q)).v:=by cases f.ind<;>rfl
 rw[this,BP h g.da aJ,LK g.gx];grind
theorem gb.inv(h:Inv P T){af:Nat}{aG:Int}{f:fD}{q:Rat}(g:gb P c T af aG f q):Inv P (gU P T af aG q f.ind):=by
 cases a:f.ind with
 | none=>exact h.e6 g.da _
 | some b=>
   obtain⟨c,d,_⟩:=g.G.row b a;exact(h.e6 g.da _).r0 c g.da d
theorem gb.AH(h:Inv P T)(b:th P T){af:Nat}{aG:Int}{f:fD}{q:Rat}(g:gb P c T af aG f q):th P (gU P T af aG q f.ind):=by
 have f:=g.Cu b h.y;intro x j
 rcases h.y.iR x j with⟨i,aJ,rfl⟩ | ⟨k,kN,rfl⟩
 ·have c:=b _ (h.y.r i aJ);unfold js;rw[g.LH h.y aJ];by_cases a:T.M i af=0
  ·rw[a];have:T.v (T.rows i)+(aG:Rat)*0*q=T.v (T.rows i):=by grind
   rw[this];exact c
  ·have d:=jt a;have e:0<=cX (T.M i af)*q:=im (iu d) f
   rcases vn g.gx a with⟨e4,cq⟩ | ⟨e4,cq⟩<;>rw[cq]
   ·refine⟨λl e=>by have:=c.1 l e;grind,λu e=>?_⟩;have f:=C2 (v:=T.v) e;have:=(g.G.min q g.Y i aJ a _ (by rw[e4];exact f)).1;have:cX (T.M i af)*q<=cX (T.M i af)*((u-T.v (T.rows i))/cX (T.M i af)):=sF this (iu d);have e:cX (T.M i af)*((u-T.v (T.rows i))/cX (T.M i af))=u-T.v (T.rows i):=by
     have:cX (T.M i af)≠0:=by grind
     grind
    grind
   ·refine⟨λl e=>?_,λu f=>by have:=c.2 u f;grind⟩;have c:=C1 (v:=T.v) e;have:=(g.G.min q g.Y i aJ a _ (by rw[e4];exact c)).1;have:cX (T.M i af)*q<=cX (T.M i af)*((T.v (T.rows i)-l)/cX (T.M i af)):=sF this (iu d);have e:cX (T.M i af)*((T.v (T.rows i)-l)/cX (T.M i af))=T.v (T.rows i)-l:=by
     have:cX (T.M i af)≠0:=by grind
     grind
    grind
 ·have a:=b _ (h.y.c k kN);unfold js;rw[g.vx h.y kN];by_cases e:k=af
  ·subst e;simp only[if_true]
   rcases g.gx with rfl | rfl
   ·refine⟨λl b=>by have:=a.1 l b;simp;grind,λ_ b=>?_⟩;have:=(g.G.xA q g.Y _ (C2 b)).1;simp;grind
   ·refine⟨λ_ b=>?_,λu c=>by have:=a.2 u c;simp;grind⟩;have:=(g.G.xA q g.Y _ (C1 b)).1;simp;grind
  ·simp only[e,if_false];exact a
theorem gb.obj(h:Inv P T){af:Nat}{aG:Int}{f:fD}{q:Rat}(g:gb P c T af aG f q):C.obj P c (gU P T af aG q f.ind).v=C.obj P c T.v-cX (red P c T af)*q:=by
 rw[xG h (g.inv h).val,xG h h.val,ma g.da,ma (f:=λk=>red P c T k*T.v (T.a k)) g.da,g.vx h.y g.da,aT rfl];have e:a1 (λk=>if k=af then 0 else red P c T k*(gU P T af aG q f.ind).v (T.a k)) P.n=a1 (λk=>if k=af then 0 else red P c T k*T.v (T.a k)) P.n:=ew λk a=>by
  by_cases e:k=af
  ·simp[e]
  ·simp only[e,if_false,g.vx h.y a]
 rw[e];have:red P c T af*(aG:Rat)=-cX (red P c T af):=by
  rw[g.pV];unfold cX
  rcases jH g.d with⟨ez,e⟩ | ⟨ez,e⟩<;>rw[e]
  ·grind
  ·grind
 grind
end
section
variable{P:bu}{c:Nat->Rat}
structure q9(P:bu)(c:Nat->Rat)(T:bd)(a af:Nat)(aG:Int):Prop where
 eA:a<P.m
 da:af<P.n
 mT:T.M a af≠0
 d:red P c T af≠0
 pV:aG=-ck (red P c T af)
 can:can P T.v (T.a af) aG=true
 tV:∀k,k<P.n->red P c T k≠0->C.can P T.v (T.a k) (-ck (red P c T k))=true->T.a af<=T.a k
 zero:room P T.v (T.rows a) (aG*ck (T.M a af))=some 0
 zx:∀i,i<P.m->T.M i af≠0->room P T.v (T.rows i) (aG*ck (T.M i af))=some 0->T.rows a<=T.rows i
theorem q9.gx{T:bd}{a af:Nat}{aG:Int}(g:q9 P c T a af aG):aG=1∨aG=-1:=by
 rw[g.pV]
 rcases jH g.d with⟨_,e⟩ | ⟨_,e⟩<;>rw[e]<;>simp
theorem gb.NX{T:bd}{af:Nat}{aG:Int}{f:fD}(g:gb P c T af aG f 0):∃a,f.ind=some a/\q9 P c T a af aG:=by
 cases b:f.ind with
 | none=>
   exfalso;have h:=(g.G.own b).1;rw[g.Y]at h;have a:=g.can
   rcases g.gx with rfl | rfl
   ·obtain⟨u,c,_⟩:=vg h.symm;have:=tR (by decide) a u c;grind
   ·obtain⟨u,c,_⟩:=vf h.symm;have:=tQ (by decide) a u c;grind
 | some a=>
   obtain⟨e,c,_,r,f,d⟩:=g.G.row a b;rw[g.Y]at d;have i:=jt c;have h:r=0:=by
    have:(0:Rat)=r/cX (T.M a af):=jF d;have d:cX (T.M a af)≠0:=by grind
    grind
   refine⟨a,rfl,e,g.da,c,g.d,g.pV,g.can,g.tV,by rw[f,h],λi d c h=>?_⟩;have e:=(g.G.min 0 g.Y i d c 0 h).2 (by
    have:=jt c;have:cX (T.M i af)≠0:=by grind
    grind)
   grind
theorem Kv{v:Nat->Rat}{x:Nat}{w:Int}(a:w=1∨w=-1)(h:room P v x w=some 0):(w=1/\P.up x=some (v x))∨(w=-1/\P.ah x=some (v x)):=by
 rcases a with rfl | rfl
 ·obtain⟨_,_,_⟩:=vg h;grind
 ·obtain⟨_,_,_⟩:=vf h;grind
def qd(P:bu)(T:bd)(af:Nat)(aG:Int)(x:Nat):Rat:=if x=T.a af then(aG:Rat) else a1 (λi=>if T.rows i=x then T.M i af*(aG:Rat) else 0) P.m
theorem qe{T:bd}(h:dx P T){af:Nat}{aG:Int}(b:af<P.n){k:Nat}(a:k<P.n):qd P T af aG (T.a k)=if k=af then(aG:Rat) else 0:=by
 unfold qd;by_cases e:k=af
 ·subst e;simp
 ·have:T.a k≠T.a af:=λc=>e (h.ci k af a b c);rw[aC this,aC e,pQ λi b=>by rw[aC (h.rc i k b a)]]
theorem Au{T:bd}(h:dx P T){af:Nat}{aG:Int}(a:af<P.n){i:Nat}(aJ:i<P.m):qd P T af aG (T.rows i)=T.M i af*(aG:Rat):=by
 unfold qd;rw[aC (h.rc i af aJ a),oE (j:=i) aJ λj a b=>by rw[aC λe=>b (h.k6 j i a aJ e)],aT rfl]
theorem Hc{T:bd}(h:Inv P T){af:Nat}{aG:Int}(a:af<P.n):rl P (qd P T af aG):=(h.dD _).2 λ_ b=>by
 rw[Au h.y a b,oE (j:=af) a λ_ b c=>by rw[qe h.y a b,aC c,ow],qe h.y a a,aT rfl]
theorem N2{T:bd}(h:Inv P T){af:Nat}{aG:Int}(a:af<P.n):obj P c (qd P T af aG)=red P c T af*(aG:Rat):=by
 rw[xG h (Hc h a),oE (j:=af) a λ_ b c=>by rw[qe h.y a b,aC c,ow],qe h.y a a,aT rfl]
structure zm(P:bu)(c:Nat->Rat)(st:Nat->bd)(a dE:Nat->Nat)(w:Nat->Int)(L:Nat)(v:Nat->Rat):Prop where
 go:∀t,t<L->q9 P c (st t) (a t) (dE t) (w t)
 hc:∀t,t<L->(st (t+1)).rows=((st t).r0 (a t) (dE t)).rows
 inv:∀t,t<=L->Inv P (st t)
 AH:∀x,x<P.n+P.m->js P v x
 val:∀t,t<=L->∀x,x<P.n+P.m->(st t).v x=v x
theorem wE{v w:Nat->Rat}{x:Nat}{s:Int}(h:v x=w x):can P v x s=can P w x s:=by simp only[can,h]
theorem Sm{v w:Nat->Rat}{x:Nat}{s:Int}(h:v x=w x):room P v x s=room P w x s:=by simp only[room,h]
theorem Gr{T:bd}(h:dx P T){a af:Nat}(eA:a<P.m)(c:af<P.n){b:bd}(e:b.rows=(T.r0 a af).rows)(x:Nat):dh P b x↔(x=T.a af∨(dh P T x/\x≠T.rows a)):=by
 rw[<-tI h eA c x];unfold dh;rw[e]
theorem zm.core{b:Nat->bd}{a g:Nat->Nat}{w:Nat->Int}{L:Nat}{v:Nat->Rat}(R:zm P c b a g w L v)(s t r:Nat)(M:s<t)(M:t<L)(g':(b s).rows (a s)=r)(q:(b t).a (g t)=r)
 (G:∀u,s<=u->u<=t->(b u).rows (a u)<=r/\(b u).a (g u)<=r):False:=by
 have d:=R.go s (by omega);have l:=R.go t M;have h:=R.inv s (by omega);have x:=R.inv t (by omega);have y:=d.gx;have N:∀j,r<j->∀i,s+i<=t->(dh P (b (s+i)) j↔dh P (b s) j):=by
  intro j _ i
  induction i with
  | zero=>grind
  | succ i ih=>
    intro _;obtain⟨_,_⟩:=G (s+i) (by omega) (by omega);have a:=R.go (s+i) (by omega);have c:=R.inv (s+i) (by omega);refine((Gr c.y a.eA a.da (R.hc (s+i) (by omega)) j).trans ⟨λa=>?_,λa=>.inr ⟨a,by omega⟩⟩).trans (ih (by omega));grind
 obtain⟨W,m⟩:∃W,W=qd P (b s) (g s) (w s):=⟨_,rfl⟩;have O:rl P W:=m▸Hc h d.da;have H:obj P c W<0:=by
  rw[m,N2 h d.da,d.pV]
  rcases jH d.d with⟨ez,e⟩ | ⟨ez,e⟩<;>rw[e]
  ·simp;grind
  ·simp;grind
 rw[xG x O]at H;have i:(b s).a (g s)<r:=by
  have:=(G s (bg _) (by omega)).2;have a:(b s).a (g s)≠r:=λe=>h.y.rc _ _ d.eA d.da (g'.trans e.symm);omega
 have C:=R.val s (by omega);have D:=R.val t (by omega);have E:r<P.n+P.m:=by rw[<-g'];exact h.y.r _ d.eA
 have I:W r=(b s).M (a s) (g s)*(w s:Rat):=by rw[m,<-g'];exact Au h.y d.da d.eA
 have J:=vn y d.mT;have n:=Kv (yy y d.mT) d.zero;rw[g',C r E]at n;refine absurd (S6 (f:=λk=>red P c (b t) k*W ((b t).a k)) l.da (λk A=>?_) ?_) (pD.2 (iu H))
 ·have f:=x.y.c k A;by_cases F:red P c (b t) k=0
  ·simp_all
  by_cases i:r<(b t).a k
  ·have c:¬dh P (b t) ((b t).a k):=λ⟨o,u,e⟩=>x.y.rc o k u A e;have a:=N _ i (t-s) (by omega);rw[show s+(t-s)=t by omega]at a;obtain⟨K,B,i⟩:=Je h.y f λp=>c (a.2 p);have:W ((b t).a k)=0:=by
    rw[m,<-i,qe h.y d.da B,aC];rintro rfl;omega
   simp_all
  ·by_cases i:(b t).a k=r
   ·have v:k=g t:=x.y.ci _ _ A l.da (i.trans q.symm);have p:=l.can;rw[q,l.pV,<-v]at p;rw[wE (D r E)]at p;show 0<=red P c (b t) k*W ((b t).a k);rw[i,I,sx ((b s).M (a s) (g s))]
    rcases jH F with⟨ez,e⟩ | ⟨ez,e⟩<;>rw[e]at p<;>rcases J with⟨s1,s2⟩ | ⟨s1,s2⟩<;>rw[s1]at n
    ·have:=im (iu ez) (iu (jt d.mT));grind
    ·rcases n with⟨z,_⟩ | ⟨_,z⟩
     ·cases z
     ·have:=tQ (by decide) p _ z;grind
    ·rcases n with⟨_,z⟩ | ⟨z,_⟩
     ·have:=tR (by decide) p _ z;grind
     ·cases z
    ·have a:0<=-red P c (b t) k:=by grind
     have:=im a (iu (jt d.mT));rw[s2];grind
   ·have Q:(b t).a k<r:=by omega
    have a:can P (b t).v ((b t).a k) (-ck (red P c (b t) k))=false:=by
     cases e:can P (b t).v ((b t).a k) (-ck (red P c (b t) k)) with
     | false=>rfl
     | true=>have:=l.tV k A F e;omega
    rw[wE (D _ f)]at a;obtain⟨j,p⟩:∃j,j=(b t).a k:=⟨_,rfl⟩;rw[<-p]at a Q f;show 0<=red P c (b t) k*W ((b t).a k);rw[<-p];have r:∀(σ:Int),(σ=1∨σ=-1)->room P v j σ=some 0->(σ:Rat)*W j<=0:=by
     intro σ t v
     rcases h.y.iR j f with⟨o,u,AA⟩ | ⟨K,B,AB⟩
     ·have P:W j=(b s).M o (g s)*(w s:Rat):=by rw[m,<-AA];exact Au h.y d.da u
      by_cases c:(b s).M o (g s)=0
      ·simp_all
      ·have z:w s*ck ((b s).M o (g s))≠σ:=λe=>by
        have:=d.zx o u c (by rw[AA,e,Sm (C j f)];exact v);rw[g',AA]at this;omega
       have e:=jt c;rw[P]
       rcases vn y c with⟨s1,s2⟩ | ⟨s1,s2⟩<;>rw[s1]at z<;>rcases t with rfl | rfl
       ·exact absurd rfl z
       ·simp;grind
       ·simp;grind
       grind
     ·by_cases e:K=g s
      ·have i:W j=(w s:Rat):=by rw[m,<-AB,qe h.y d.da B,aT e]
       have c:=d.can;rw[<-e,AB,wE (C j f)]at c;have s:=Kv t v;rw[i]
       rcases y with i | i<;>rw[i]at c|-<;>rcases s with⟨rfl,z⟩ | ⟨rfl,z⟩
       ·exact absurd (tR (by decide) c _ z) qK
       ·simp;grind
       ·simp;grind
       ·exact absurd (tQ (by decide) c _ z) qK
      ·have c:W j=0:=by rw[m,<-AB,qe h.y d.da B,aC e]
       simp_all
    have L:=R.AH j f
    rcases jH F with⟨ez,e⟩ | ⟨ez,e⟩<;>rw[e]at a
    ·obtain⟨e,c,_⟩:=zP (by decide) a;have f:=L.1 e c;have:=r (-1) (.inr rfl) (by rw[C1 c];congr 1;grind);have c:0<=W j:=by simp at this;grind
     exact im (iu ez) c
    ·obtain⟨f,e,_⟩:=zQ (by decide) a;have a:=L.2 f e;have:=r 1 (.inl rfl) (by rw[C2 e];congr 1;grind);have a:0<=-W j:=by simp at this;grind
     have e:0<=-red P c (b t) k:=by grind
     have:=im e a;grind
 ·have f:=l.can;rw[q,l.pV]at f;rw[wE (D r E)]at f;show 0<red P c (b t) (g t)*W ((b t).a (g t));rw[q,I,sx ((b s).M (a s) (g s))]
  rcases jH l.d with⟨ez,e⟩ | ⟨ez,e⟩<;>rw[e]at f<;>rcases J with⟨s1,s2⟩ | ⟨s1,s2⟩<;>rw[s1]at n
  ·have:=Rat.mul_pos ez (jt d.mT);grind
  ·rcases n with⟨z,_⟩ | ⟨_,z⟩
   ·cases z
   ·exact absurd (tQ (by decide) f _ z) qK
  ·rcases n with⟨_,z⟩ | ⟨z,_⟩
   ·exact absurd (tR (by decide) f _ z) qK
   ·cases z
  ·have a:0 < -red P c (b t) (g t):=by grind
   have:=Rat.mul_pos a (jt d.mT);rw[s2];grind
def cu(B:Nat)(q:Rat):Prop:=q.num.natAbs<=B/\q.den<=B
theorem uA(q:Rat):q*(q.den:Rat)=(q.num:Rat):=by
 have h:=Rat.num_divInt_den q;rw[Rat.divInt_eq_div]at h;have a:(q.den:Rat)≠0:=by
  intro e;have:q.den=0:=by exact_mod_cast e
  exact q.den_nz this
 have e:((q.den:Int):Rat)=(q.den:Rat):=oq _;grind
theorem M0{B:Nat}{p q:Rat}(c:cu B p)(d:cu B q)(h:p<q):1<=(q-p)*((B:Rat)*B):=by
 have e:(0:Rat)<p.den:=by exact_mod_cast p.den_pos
 have a:(0:Rat)<q.den:=by exact_mod_cast q.den_pos
 have f:p*p.den=p.num:=uA p;have g:q*q.den=q.num:=uA q;have b:0<(q-p)*((p.den:Rat)*q.den):=Rat.mul_pos (by grind) (Rat.mul_pos e a);have e:(q-p)*((p.den:Rat)*q.den)=((q.num*p.den-p.num*q.den:Int):Rat):=by
  simp only[Rat.intCast_sub,x4,<-f,<-g,oq];grind
 rw[e]at b;have f:0<q.num*p.den-p.num*q.den:=by exact_mod_cast b
 have b:(1:Rat)<=((q.num*p.den-p.num*q.den:Int):Rat):=by exact_mod_cast f
 rw[<-e]at b;have b:(p.den:Rat)<=B:=by exact_mod_cast c.2
 have c:(q.den:Rat)<=B:=by exact_mod_cast d.2
 have d:(p.den:Rat)*q.den<=(B:Rat)*B:=by
  have e:=CC b (iu a);have a:(0:Rat)<=B:=by grind
  have b:=sF c a;grind
 have a:=sF d (show(0:Rat)<=q-p by grind);grind
theorem Gu{B:Nat}{p:Rat}(c:cu B p):-(B:Rat)<=p/\p<=B:=by
 have a:(1:Rat)<=p.den:=by exact_mod_cast p.den_pos
 have d:p*p.den=p.num:=uA p;have b:-(B:Int)<=p.num/\p.num<=B:=by have:=c.1;omega
 have c:-(B:Rat)<=p.num:=by
  have h:((-(B:Int):Int):Rat)<=p.num:=by exact_mod_cast b.1
  rwa [Rat.intCast_neg,oq]at h
 have e:(p.num:Rat)<=B:=by exact_mod_cast b.2
 rw[<-d]at c e;have b:(0:Rat)<=B:=by exact_mod_cast Nat.zero_le B
 constructor
 ·apply pD.1;intro _;have b:p<0:=by grind
  have:=sF a (show(0:Rat)<=-p by grind);grind
 ·apply pD.1;intro _;have b:0<p:=by grind
  have:=sF a (iu b);grind
theorem Jc{T:bd}{af:Nat}{q:Rat}(a:q=0):∀k x,fj T af q k x=T.v x
 | 0,x=>by
   show(if x=T.a af then _ else _)=_;grind
 | k+1,x=>by
   show(if x=T.rows k then fj T af q k x+T.M k af*q else fj T af q k x)=_;rw[Jc a k x,a];split<;>grind
theorem NY(G:bd->Prop)(q:∀T j,G T->gk P c T=some j->G j)(aJ:∀T,G T->Inv P T/\th P T){B:Nat}(e:∀T,G T->cu B (obj P c T.v)){T:bd}(r:G T):Ends (gk P c) T:=by
 apply lW;intro k;obtain⟨a,s,l⟩:=KK k;have b:∀t,G (a t):=by
  intro t
  induction t with
  | zero=>rw[s];exact r
  | succ t ih=>exact q _ _ ih (l t)
 have m:∀t,∃p:Nat×Int×fD×Rat,gb P c (a t) p.1 p.2.1 p.2.2.1 p.2.2.2/\a (t+1)=gU P (a t) p.1 p.2.1 p.2.2.2 p.2.2.1.ind:=λt=>by
  obtain⟨c,f,g,q,h,j⟩:=Hb (l t);exact⟨(c,f,g,q),h,j⟩
 have v:∀t,obj P c (a (t+1)).v<=obj P c (a t).v:=λt=>by
  obtain⟨p,g,f⟩:=m t;obtain⟨c,h⟩:=aJ _ (b t);rw[f,g.obj c];have:=im (iu (jt g.d)) (g.Cu h c.y);grind
 have w:∀d t,obj P c (a (t+d)).v<=obj P c (a t).v:=by
  intro d
  induction d with
  | zero=>exact λt=>sE
  | succ d ih=>exact λt=>Rat.le_trans (v (t+d)) (ih t)
 have y:∀t,∃u,t<=u/\obj P c (a (u+1)).v<obj P c (a u).v:=by
  intro t;apply lW;intro l;have z:∀u,t<=u->∃p:Nat×Nat×Int,q9 P c (a u) p.1 p.2.1 p.2.2/\(a (u+1)).rows=((a u).r0 p.1 p.2.1).rows/\∀x,(a (u+1)).v x=(a u).v x:=λu r=>by
   obtain⟨⟨n,o,_,q⟩,c,h⟩:=m u;simp only at c h;obtain⟨j,m⟩:=aJ _ (b u);have s:=c.Cu m j.y;have A:q=0:=by
    apply lW;intro k;apply l;refine⟨u,r,?_⟩;rw[h,c.obj j];have:=Rat.mul_pos (jt c.d) (show 0<q by grind);grind
   subst A;obtain⟨j,k,g⟩:=c.NX;rw[k]at h;refine⟨(j,n,o),g,by rw[h];rfl,λx=>?_⟩;rw[h];show fj (a u) n (if o<0 then -0 else 0) P.m x=_;exact Jc (by split<;>grind) _ _
  have f:∀d,∃p:Nat×Nat×Int,q9 P c (a (t+d)) p.1 p.2.1 p.2.2/\(a (t+d+1)).rows=((a (t+d)).r0 p.1 p.2.1).rows/\∀x,(a (t+d+1)).v x=(a (t+d)).v x:=λd=>z (t+d) (by omega);have B:∀d,∀x,(a (t+d)).v x=(a t).v x:=by
   intro d
   induction d with
   | zero=>exact λx=>rfl
   | succ d ih=>exact λx=>((pE (f d)).2.2 x).trans (ih x)
  have R:zm P c (λd=>a (t+d)) (λd=>(Classical.choose (f d)).1) (λd=>(Classical.choose (f d)).2.1) (λd=>(Classical.choose (f d)).2.2) (3^(P.n+P.m)) (a t).v:=
   ⟨λd _=>(pE (f d)).1,λd _=>(pE (f d)).2.1,λd _=>(aJ _ (b _)).1,(aJ _ (b t)).2,λd _ x _=>B d x⟩
  refine zJ (dh:=λd x=>dh P (a (t+d)) x) (iX:=λd=>(a (t+d)).rows ((Classical.choose (f d)).1)) (cJ:=λd=>(a (t+d)).a ((Classical.choose (f d)).2.1)) (λd g x=>?_) (λd g=>?_) (λs u r f h j k i _=>R.core s u r f h j k i) (P.n+P.m) 0 (λd _ g=>?_) (by omega)
  ·have c:=R.go d g;exact Gr (aJ _ (b _)).1.y c.eA c.da (R.hc d g) x
  ·have c:=R.go d g;have n:=(aJ _ (b (t+d))).1;exact⟨⟨_,c.eA,rfl⟩,λ⟨j,f,g⟩=>n.y.rc j _ f c.da g⟩
  ·have g:=R.go d (by omega);have c:=(aJ _ (b (t+d))).1;exact⟨c.y.r _ g.eA,c.y.c _ g.da⟩
 have C:∀K:Nat,∃t,(K:Rat)<=(obj P c (a 0).v-obj P c (a t).v)*((B:Rat)*B):=by
  intro K
  induction K with
  | zero=>exact⟨0,by simp;grind⟩
  | succ K ih=>
    obtain⟨t,h⟩:=ih;obtain⟨u,_,d⟩:=y t;have c:=w (u-t) t;rw[show t+(u-t)=u by omega]at c;have f:=M0 (e _ (b (u+1))) (e _ (b u)) d;have d:(0:Rat)<=(B:Rat)*B:=by
     have e:(0:Rat)<=B:=by exact_mod_cast Nat.zero_le B
     exact im e e
    have i:=CC c d;refine⟨u+1,?_⟩;have:((K+1:Nat):Rat)=(K:Rat)+1:=by simp
    rw[this];grind
 obtain⟨t,h⟩:=C (2*B*(B*B)+1);obtain⟨_,_⟩:=Gu (e _ (b 0));obtain⟨_,_⟩:=Gu (e _ (b t));have d:(0:Rat)<=(B:Rat)*B:=by
  have e:(0:Rat)<=B:=by exact_mod_cast Nat.zero_le B
  exact im e e
 have i:=CC (show obj P c (a 0).v-obj P c (a t).v<=2*(B:Rat) by grind) d;grind
end
def gM(j l:Nat):Rat:=if j<l then 1 else if l<j then -1 else 0
theorem SJ(j l:Nat):gM l j=-gM j l:=by
 unfold gM;grind
def dJ(n:Nat):List (Nat->Rat)->(Nat->Rat)->Rat
 | [],_=>1
 | r::a,w=>a1 (λj=>r j*w j*dJ n a (λl=>w l*gM j l)) n
section
variable{n:Nat}
theorem Mh(r s:Nat->Rat)(B:List (Nat->Rat))(w:Nat->Rat):dJ n (r::s::B) w=-dJ n (s::r::B) w:=by
 have a:∀(r s:Nat->Rat),dJ n (r::s::B) w=a1 (λj=>a1 (λl=>r j*s l*(w j*w l*gM j l*dJ n B (λx=>w x*gM j x*gM l x))) n) n:=λr s=>by
  simp only[dJ];refine ew λj _=>?_;rw[<-hY];grind
 rw[a,a,Dl];have:∀(f:Nat->Rat) (N:Nat),-a1 f N=a1 (λi=>-f i) N:=λf N=>by
  have:=hY (-1) f N;grind
 rw[this];refine ew λj _=>?_;rw[this];refine ew λl _=>?_;have e:(λx=>w x*gM l x*gM j x)=λx=>w x*gM j x*gM l x:=funext λx=>by grind
 rw[e,SJ j l];grind
theorem za(r s:Nat->Rat)(B:List (Nat->Rat)):∀(A:List (Nat->Rat)) (w:Nat->Rat),dJ n (A++r::s::B) w=-dJ n (A++s::r::B) w
 | [],w=>Mh r s B w
 | a::A,w=>by
   simp only[kl,dJ];have:=hY (-1) (λj=>a j*w j*dJ n (A++s::r::B) (λl=>w l*gM j l)) n;have e:a1 (λj=>a j*w j*dJ n (A++r::s::B) (λl=>w l*gM j l)) n=a1 (λj=>(-1)*(a j*w j*dJ n (A++s::r::B) (λl=>w l*gM j l))) n:=ew λj _=>by
    rw[za r s B A];grind
   grind
theorem y8(r:Nat->Rat)(w:Nat->Rat):∀(B A:List (Nat->Rat)),r∈B->dJ n (A++r::B) w=0
 | [],_,h=>by cases h
 | s::B,A,h=>by
   by_cases e:r=s
   ·subst e;have:=za (n:=n) r r B A w;grind
   ·have a:r∈B:=by
     rcases hk.1 h with h | h
     ·exact absurd h e
     ·exact h
    rw[za];have:=y8 r w B (A++[s]) a;grind
theorem Mi(r:Nat->Rat)(w:Nat->Rat){A B:List (Nat->Rat)}(h:r∈A∨r∈B):dJ n (A++r::B) w=0:=by
 rcases h with h | h
 ·obtain⟨a,b,rfl⟩:=List.append_of_mem h;rw[sw];exact y8 r w (b++r::B) a (List.mem_append_right _ (.head _))
 ·exact y8 r w B A h
theorem y7:∀{A te:List (Nat->Rat)} (w:Nat->Rat),A.length=te.length->(∀(i:Nat) (r bn:Nat->Rat),A[i]? = some r->te[i]? = some bn->∀j,j<n->r j=bn j)->dJ n A w=dJ n te w
 | [],[],_,_,_=>rfl
 | r::A,bn::te,w,a,h=>by
   simp only[dJ];refine ew λj b=>?_;rw[h 0 r bn rfl rfl j b,y7 (λl=>w l*gM j l) (by simpa using a) λi a b e c=>h (i+1) a b (by simpa using e) (by simpa using c)]
 | [],_::_,_,a,_=>by simp at a
 | _::_,[],_,a,_=>by simp at a
theorem y'(a b:Rat)(r s:Nat->Rat)(B:List (Nat->Rat)):∀(A:List (Nat->Rat)) (w:Nat->Rat),dJ n (A++(λj=>a*r j+b*s j)::B) w=a*dJ n (A++r::B) w+b*dJ n (A++s::B) w
 | [],w=>by
   simp only[u4,dJ];rw[<-hY,<-hY,<-oD];grind
 | c::A,w=>by
   simp only[kl,dJ];rw[<-hY,<-hY,<-oD];refine ew λj _=>?_;rw[y' a b r s B A];grind
theorem FI(f:Nat->Nat->Rat)(m:Nat->Rat)(A B:List (Nat->Rat))(w:Nat->Rat):∀N,dJ n (A++(λj=>a1 (λi=>m i*f i j) N)::B) w=a1 (λi=>m i*dJ n (A++f i::B) w) N
 | 0=>by
   have:=y' (n:=n) 0 0 (λ_=>0) (λ_=>0) B A w;have e:(λj=>a1 (λi=>m i*f i j) 0)=λj=>(0:Rat)*(λ_=>(0:Rat)) j+0*(λ_=>(0:Rat)) j:=by
    funext j;simp[a1,na]
   rw[e,this];simp only[a1];grind
 | N+1=>by
   have e:(λj=>a1 (λi=>m i*f i j) (N+1))=λj=>1*(λj=>a1 (λi=>m i*f i j) N) j+m N*f N j:=by
    funext j;simp only[a1];grind
   rw[e,y',FI f m A B w N];simp only[a1];grind
theorem NJ{N:Nat}{C:Nat->Nat->Rat}{g m:Nat->Rat}(AW:∀j,j<n->g j=a1 (λk=>m k*C k j) N){k:Nat}(a:k<N)(w:Nat->Rat):
 dJ n (((List.range N).map C).take k++g::((List.range N).map C).drop (k+1)) w=m k*dJ n ((List.range N).map C) w:=by
 have b:dJ n (((List.range N).map C).take k++g::((List.range N).map C).drop (k+1)) w=dJ n (((List.range N).map C).take k++(λj=>a1 (λi=>m i*C i j) N)::((List.range N).map C).drop (k+1)) w:=by
  refine y7 w (by simp) λi _ _ _ _ j _=>?_;have c:(((List.range N).map C).take k).length=k:=by simp;omega
  by_cases c:i<k
  ·grind
  ·grind
 rw[b,FI,oE (j:=k) a λi c _=>?_]
 ·congr 1;have:((List.range N).map C).take k++C k::((List.range N).map C).drop (k+1)=(List.range N).map C:=by
   have h:((List.range N).map C)[k]'(by simpa using a)=C k:=by simp
   rw[<-h,<-List.drop_eq_getElem_cons,uY]
  rw[this]
 ·rw[Mi (C i) w,ow];have a:∀(l:List (Nat->Rat)) (q:Nat),l[q]? = some (C i)->C i∈l:=λl q h=>eB h;by_cases h:i<k
  ·refine .inl (a _ i ?_);grind
  ·refine .inr (a _ (i-(k+1)) ?_);grind
theorem Mg{N:Nat}{C a:Nat->Nat->Rat}{g:Nat->Rat}{k:Nat}(b:k<N)(h:∀i,i<N->a i=if i=k then g else C i)(_:Nat->Rat):(List.range N).map a=((List.range N).map C).take k++g::((List.range N).map C).drop (k+1):=by
 apply nb;grind
def dF(q:Rat)(b:Nat):Prop:=∃z:Int,q=z/\z.natAbs<=b
theorem dF.mono{q:Rat}{a b:Nat}(h:dF q a)(c:a<=b):dF q b:=let ⟨z,d,e⟩:=h;⟨z,d,aY e c⟩
theorem dF.add{p q:Rat}{a b:Nat}(h:dF p a)(g:dF q b):dF (p+q) (a+b):=by
 obtain⟨x,rfl,_⟩:=h;obtain⟨y,rfl,_⟩:=g;exact⟨x+y,by grind,aY (Int.natAbs_add_le _ _) (by omega)⟩
theorem dF.mul{p q:Rat}{a b:Nat}(h:dF p a)(g:dF q b):dF (p*q) (a*b):=by
 obtain⟨x,rfl,a⟩:=h;obtain⟨y,rfl,b⟩:=g;exact⟨x*y,by grind,by rw[oy];exact gK a b⟩
theorem dF.sum{f:Nat->Rat}{b:Nat}:∀{n:Nat},(∀i,i<n->dF (f i) b)->dF (a1 f n) (n*b)
 | 0,_=>⟨0,by simp[a1],by simp⟩
 | n+1,h=>by
   rw[a1,hS];exact(dF.sum λi _=>h i (by omega)).add (h n (by omega))
theorem OY(j l:Nat):dF (gM j l) 1:=by
 unfold gM;by_cases a:j<l
 ·rw[aT a];exact⟨1,by simp,by decide⟩
 ·by_cases b:l<j
  ·rw[aC a,aT b];exact⟨-1,by simp,by decide⟩
  ·rw[aC a,aC b];exact⟨0,by simp,by decide⟩
theorem y9{E:Nat}:∀{A:List (Nat->Rat)} {w:Nat->Rat},(∀r∈A,∀j,j<n->dF (r j) E)->(∀j,dF (w j) 1)->dF (dJ n A w) ((n*E)^A.length)
 | [],_,_,_=>⟨1,by simp[dJ],by simp⟩
 | r::A,w,h,a=>by
   simp only[dJ,gu,dH];have:=dF.sum (f:=λj=>r j*w j*dJ n A (λl=>w l*gM j l)) (b:=E*1*(n*E)^A.length) (n:=n) λj c=>
    ((h r (.head _) j c).mul (a j)).mul (y9 (λr b=>h r (.tail _ b)) λl=>(a l).mul (OY j l))
   grind
theorem zE{q p r:Rat}{a b B:Nat}(h:q*r=p)(d:dF p a)(e:dF r b)(ez:r≠0)(eA:a<=B)(i:b<=B):cu B q:=by
 obtain⟨x,rfl,b⟩:=d;obtain⟨y,rfl,_⟩:=e;have f:y≠0:=by rintro rfl;exact ez (by simp)
 have e:q.num*y=x*q.den:=by
  have b:((q.num*y:Int):Rat)=((x*(q.den:Int):Int):Rat):=by
   rw[x4,x4,<-uA q,oq];grind
  exact_mod_cast b
 have a:q.num.natAbs*y.natAbs=x.natAbs*q.den:=by
  have:=congrArg Int.natAbs e;simpa [oy]using this
 have b:q.den∣y.natAbs:=q.reduced.symm.dvd_of_dvd_mul_left (a▸Nat.dvd_mul_left _ _);have g:q.num.natAbs∣x.natAbs:=q.reduced.dvd_of_dvd_mul_right (a▸Nat.dvd_mul_right _ _);have d:0<y.natAbs:=Int.natAbs_pos.2 f;refine⟨?_,aY (Nat.le_of_dvd d b) (by omega)⟩;by_cases c:x=0
 ·subst c;rw[Int.natAbs_zero,Nat.zero_mul]at a
  rcases Nat.mul_eq_zero.1 a with a | a
  ·grind
  ·omega
 ·exact aY (Nat.le_of_dvd (Int.natAbs_pos.2 c) g) (by omega)
end
def form(P:bu)(x j:Nat):Rat:=if x<P.n then(if x=j then 1 else 0) else P.A (x-P.n) j
section
variable{P:bu}{c:Nat->Rat}{T:bd}
theorem Ox(P:bu){j:Nat}(a:j<P.n):rl P λx=>form P x j:=λi _=>by
 have b:¬P.n+i<P.n:=by omega
 show form P (P.n+i) j=a1 (λk=>P.A i k*form P k j) P.n;rw[oE (j:=j) a λk c d=>by simp[form,c,d]];simp only[form,b,if_false,a,if_true,Nat.add_sub_cancel_left];grind
theorem HL(h:Inv P T){i:Nat}(aJ:i<P.m){j:Nat}(a:j<P.n):form P (T.rows i) j=a1 (λk=>T.M i k*form P (T.a k) j) P.n:=(h.dD _).1 (Ox P a) i aJ
structure lp(P:bu)(s:Nat->Nat)(S E:Nat):Prop where
 pos:∀x,1<=s x
 le:∀x,s x<=S
 one:∀x,x<P.n->s x=1
 z:∀x j,x<P.n+P.m->j<P.n->dF ((s x:Rat)*form P x j) E
def iF(P:bu)(s:Nat->Nat)(T:bd)(k j:Nat):Rat:=(s (T.a k):Rat)*form P (T.a k) j
def ff(P:bu)(s:Nat->Nat)(T:bd):Rat:=dJ P.n ((List.range P.n).map (iF P s T)) λ_=>1
theorem vl{s:Nat->Nat}(h:∀x,1<=s x)(x:Nat):(s x:Rat)≠0:=by
 have:=h x;intro e;have:s x=0:=by exact_mod_cast e
 omega
theorem GC{s:Nat->Nat}(a:∀x,1<=s x){g:Nat->Rat}{m:Nat->Rat}{t:Nat}(AW:∀j,j<P.n->g j=a1 (λk=>m k*form P (T.a k) j) P.n){k:Nat}(b:k<P.n):
 dJ P.n (((List.range P.n).map (iF P s T)).take k++(λj=>(t:Rat)*g j)::((List.range P.n).map (iF P s T)).drop (k+1)) (λ_=>1)*(s (T.a k):Rat)=m k*((t:Rat)*ff P s T):=by
 have c:∀j,j<P.n->(λj=>(t:Rat)*g j) j=a1 (λk=>((t:Rat)*m k/(s (T.a k):Rat))*iF P s T k j) P.n:=λj d=>by
  show(t:Rat)*g j=_;rw[AW j d,<-hY];refine ew λk _=>?_;unfold iF;have:=vl a (T.a k);grind
 rw[NJ c b,ff];have:=vl a (T.a k);grind
theorem FF{s:Nat->Nat}(b:∀x,1<=s x)(h:Inv P T){a af:Nat}(eA:a<P.m)(c:af<P.n)(f:T.M a af≠0)(f:ff P s T≠0):ff P s (T.r0 a af)≠0:=by
 have d:=GC (T:=T) b (t:=s (T.rows a)) (λj f=>HL h eA f) c;have g:(List.range P.n).map (iF P s (T.r0 a af))=((List.range P.n).map (iF P s T)).take af++(λj=>(s (T.rows a):Rat)*form P (T.rows a) j)::((List.range P.n).map (iF P s T)).drop (af+1):=by
  refine Mg c (λi _=>?_) (λ_=>1);funext j;unfold iF;by_cases e:i=af
  ·subst e;show(s (if i=i then _ else _):Rat)*form P (if i=i then _ else _) j=_;simp
  ·show(s (if i=af then _ else _):Rat)*form P (if i=af then _ else _) j=_;simp[e]
 rw[<-g]at d;intro c;have e:dJ P.n ((List.range P.n).map (iF P s (T.r0 a af))) (λ_=>1)=0:=c;rw[e,Rat.zero_mul]at d;have:=vl b (T.rows a);grind
theorem C9{s:Nat->Nat}{S:Nat}(h:∀x,s x<=S)(x:Nat):dF (s x:Rat) S:=⟨(s x:Int),(oq _).symm,by simpa using h x⟩
variable{s:Nat->Nat}{S E:Nat}
theorem y6(a:lp P s S E)(h:dx P T):∀r∈(List.range P.n).map (iF P s T),∀j,j<P.n->dF (r j) E:=by
 intro r b j c;obtain⟨k,d,rfl⟩:=k1.1 b;exact a.z _ j (h.c k (VX.1 d)) c
theorem vS(a:lp P s S E)(h:dx P T):dF (ff P s T) ((P.n*E)^P.n):=by
 have:=y9 (n:=P.n) (w:=λ_=>1) (y6 a h) λ_=>⟨1,by simp,by decide⟩;simpa [ff]using this
theorem QL(c:lp P s S E)(h:dx P T){g:Nat->Rat}(AW:∀j,j<P.n->dF (g j) E){k:Nat}(d:k<P.n):dF (dJ P.n (((List.range P.n).map (iF P s T)).take k++g::((List.range P.n).map (iF P s T)).drop (k+1)) λ_=>1) ((P.n*E)^P.n):=by
 have:=y9 (n:=P.n) (E:=E) (w:=λ_=>1) (A:=((List.range P.n).map (iF P s T)).take k++g::((List.range P.n).map (iF P s T)).drop (k+1)) (λr a j b=>by
  rcases l2.1 a with a | a
  ·exact y6 c h r (sH a) j b
  ·rcases hk.1 a with rfl | a
   ·exact AW j b
   ·exact y6 c h r (x8 a) j b) λ_=>⟨1,by simp,by decide⟩
 grind
theorem FX(a:lp P s S E)(h:Inv P T){i k:Nat}(aJ:i<P.m)(c:k<P.n):dF (T.M i k*((s (T.rows i):Rat)*ff P s T)) ((P.n*E)^P.n*S):=by
 rw[<-GC (T:=T) a.pos (t:=s (T.rows i)) (λj b=>HL h aJ b) c];exact(QL a h.y (λj b=>a.z _ j (h.y.r i aJ) b) c).mul (C9 a.le _)
theorem Mz(a:lp P s S E)(h:Inv P T)(c:ff P s T≠0){i k:Nat}(aJ:i<P.m)(b:k<P.n):cu ((P.n*E)^P.n*S) (T.M i k):=
 zE rfl (FX a h aJ b) ((C9 a.le _).mul (vS a h.y)) (λe=>by
  rcases u9.1 e with b | b
  ·exact vl a.pos _ b
  ·exact c b) (bg _) (Nat.le_of_eq (dW _ _))
def lQ(f:Nat->Nat):Nat->Nat
 | 0=>1
 | n+1=>lQ f n*f n
theorem xX{f:Nat->Nat}(h:∀i,1<=f i):∀n,1<=lQ f n
 | 0=>bg _
 | n+1=>pC (xX h n) (h n)
theorem su{f:Nat->Nat}{B:Nat}:∀{n:Nat},(∀i,i<n->f i<=B)->lQ f n<=B^n
 | 0,_=>bg _
 | n+1,h=>by
   rw[lQ,dH];exact gK (su λi _=>h i (by omega)) (h n (by omega))
theorem uS{f:Nat->Nat}:∀{n i:Nat},i<n->f i∣lQ f n
 | n+1,i,_=>by
   rw[lQ];by_cases e:i=n
   ·subst e;exact Nat.dvd_mul_left _ _
   ·exact Nat.dvd_trans (uS (by omega)) (Nat.dvd_mul_right _ _)
theorem wW{q:Rat}{B Q:Nat}(a:cu B q)(b:q.den∣Q){R:Nat}(c:Q<=R):dF (q*(Q:Rat)) (B*R):=by
 obtain⟨e,rfl⟩:=b;have b:q*((q.den*e:Nat):Rat)=((q.num*(e:Int):Int):Rat):=by
  have:=uA q;simp only[Rat.natCast_mul,x4,oq];grind
 refine⟨_,b,?_⟩;rw[oy];refine gK a.1 ?_;have:=q.den_pos;exact aY (sK e this) c
def gE(P:bu)(T:bd):Nat:=lQ (λk=>(T.v (T.a k)).den) P.n
theorem F3(T:bd):(gE P T:Rat)≠0:=by
 intro e;have:gE P T=0:=by exact_mod_cast e
 have:=xX (f:=λk=>(T.v (T.a k)).den) (λk=>(T.v (T.a k)).den_pos) P.n;unfold gE at*
 omega
theorem wg{T:bd}{V:Nat}(a:∀k,k<P.n->cu V (T.v (T.a k))):gE P T<=V^P.n:=su λk b=>(a k b).2
def jO(n F S V:Nat):Nat:=n*(F*S*(V*V^n))+F*S*(V*V^n)
theorem KD(c:lp P s S E)(h:Inv P T){V:Nat}(b:∀k,k<P.n->cu V (T.v (T.a k))){i:Nat}(aJ:i<P.m):dF (T.v (T.rows i)*((s (T.rows i):Rat)*ff P s T*(gE P T:Rat))) (P.n*((P.n*E)^P.n*S*(V*V^P.n))):=by
 have e:T.v (T.rows i)*((s (T.rows i):Rat)*ff P s T*(gE P T:Rat))=a1 (λk=>T.M i k*((s (T.rows i):Rat)*ff P s T)*(T.v (T.a k)*(gE P T:Rat))) P.n:=by
  rw[(h.dD _).1 h.val i aJ];have:=hY ((s (T.rows i):Rat)*ff P s T*(gE P T:Rat)) (λk=>T.M i k*T.v (T.a k)) P.n;rw[sx,<-this];exact ew λk _=>by grind
 rw[e];exact dF.sum λk a=>(FX c h aJ a).mul (wW (b k a) (uS a) (wg b))
theorem one_le_pow{V n:Nat}(h:1<=V):1<=V^n:=sA _ _ h
theorem Dx(a:lp P s S E)(h:Inv P T)(e:ff P s T≠0){V:Nat}(f:1<=V)(b:∀k,k<P.n->cu V (T.v (T.a k))){x:Nat}(d:x<P.n+P.m):cu (jO P.n ((P.n*E)^P.n) S V+V) (T.v x):=by
 rcases h.y.iR x d with⟨i,aJ,rfl⟩ | ⟨k,kN,rfl⟩
 ·refine zE rfl (KD a h b aJ) (((C9 a.le _).mul (vS a h.y)).mul (show dF (gE P T:Rat) (V^P.n) from⟨(gE P T:Int),(oq _).symm,by simpa using wg b⟩)) (λg=>?_) ?_ ?_
  ·rcases u9.1 g with c | c
   ·rcases u9.1 c with d | d
    ·exact vl a.pos _ d
    ·exact e d
   ·exact F3 T c
  ·unfold jO;omega
  ·have a:S*(P.n*E)^P.n*V^P.n<=(P.n*E)^P.n*S*(V*V^P.n):=by
    rw[dW S];exact lX _ (sK _ f)
   unfold jO;omega
 ·obtain⟨_,_⟩:=b k kN;exact⟨by omega,by omega⟩
theorem QQ(b:lp P s S E)(h:Inv P T)(m:ff P s T≠0){V:Nat}(n:1<=V)(d:∀k,k<P.n->cu V (T.v (T.a k))){a:Nat}(o:1<=a)(l:a<=S)(p:∀j,j<P.n->dF ((a:Rat)*c j) E):cu (P.n*(E*jO P.n ((P.n*E)^P.n) S V)+jO P.n ((P.n*E)^P.n) S V) (obj P c T.v):=by
 have q:1<=S:=aY o l;have r:(a:Rat)≠0:=by
  intro e;have:a=0:=by exact_mod_cast e
  omega
 have t:∀j,j<P.n->dF (T.v j*(ff P s T*(gE P T:Rat))) (jO P.n ((P.n*E)^P.n) S V):=λj g=>by
  rcases h.y.iR j (by omega) with⟨i,aJ,e⟩ | ⟨k,kN,e⟩
  ·have:=KD b h d aJ;rw[e,b.one j g]at this;have c:T.v j*(((1:Nat):Rat)*ff P s T*(gE P T:Rat))=T.v j*(ff P s T*(gE P T:Rat)):=by simp;try grind
   rw[c]at this;exact this.mono (by unfold jO;omega)
  ·have i:=wW (d k kN) (uS (f:=λk=>(T.v (T.a k)).den) kN) (wg d);have c:=(vS b h.y).mul i;rw[e]at c;have i:ff P s T*(T.v j*(lQ (λk=>(T.v (T.a k)).den) P.n:Rat))=T.v j*(ff P s T*(gE P T:Rat)):=by unfold gE;grind
   rw[i]at c;refine c.mono ?_;have:(P.n*E)^P.n*(V*V^P.n)<=(P.n*E)^P.n*S*(V*V^P.n):=e8 _ (sJ _ q);unfold jO;omega
 have e:obj P c T.v*((a:Rat)*(ff P s T*(gE P T:Rat)))=a1 (λj=>((a:Rat)*c j)*(T.v j*(ff P s T*(gE P T:Rat)))) P.n:=by
  have:=hY ((a:Rat)*(ff P s T*(gE P T:Rat))) (λj=>c j*T.v j) P.n;rw[obj,sx,<-this];exact ew λj _=>by grind
 refine zE e (dF.sum λj g=>(p j g).mul (t j g)) ((show dF (a:Rat) S from⟨(a:Int),(oq _).symm,by simpa using l⟩).mul ((vS b h.y).mul (show dF (gE P T:Rat) (V^P.n) from⟨(gE P T:Int),(oq _).symm,by simpa using wg d⟩))) (λe=>?_) (by omega) ?_
 ·rcases u9.1 e with c | c
  ·exact r c
  ·rcases u9.1 c with a | a
   ·exact m a
   ·exact F3 T a
 ·have a:S*((P.n*E)^P.n*V^P.n)<=(P.n*E)^P.n*S*(V*V^P.n):=by
   rw[<-jC,dW S];exact lX _ (sK _ n)
  have:(P.n*E)^P.n*S*(V*V^P.n)<=jO P.n ((P.n*E)^P.n) S V:=by unfold jO;omega
  omega
end
end Go.Dam.C
namespace Go.Dam.C
open Go Go.Dam
structure ep(X:ar):Prop extends iO X where
 jK:Has X F.jK C.jK
 oS:Has X F.oS C.oS
 oP:Has X F.oP C.oP
 nx:Has X F.nx C.nx
 ny:Has X F.ny C.ny
 ns:Has X F.ns C.ns
 mh:Has X F.mh C.mh
 oN:Has X F.oN C.oN
 oT:Has X F.oT C.oT
 oM:Has X F.oM C.oM
 nt:Has X F.nt C.nt
 nA:Has X F.nA C.nA
 oL:Has X F.oL C.oL
 nB:Has X F.nB C.nB
 oO:Has X F.oO C.oO
 oK:Has X F.oK C.oK
 nC:Has X F.nC C.nC
 nz:Has X F.nz C.nz
 nu:Has X F.nu C.nu
 oR:Has X F.oR C.oR
 oQ:Has X F.oQ C.oQ
 nr:Has X F.nr C.nr
variable{X:ar}{pm:Perm}{H aa bL:ad}{n:Nat}
def eJ(H:ad)(v:Value):Option Rat->Prop
 | none=>v=.pointer none
 | some q=>b9 H v q
theorem eJ.up{v:Value}{o:Option Rat}(h:eJ H v o)(u:aF pm n H aa):eJ aa v o:=by
 cases o with
 | none=>exact h
 | some _=>exact b9.up h u
theorem eJ.ext{v:Value}{o:Option Rat}(h:eJ H v o)(u:Ext H aa):eJ aa v o:=by
 cases o with
 | none=>exact h
 | some _=>exact b9.ext h u
def fc(l:List UInt8):Option Rat:=if l=[] then none else some (rd l)
theorem td(b:ep X)(g:bs pm H){l:List UInt8} (a:l≠[]->isNum l=true)(g':l.length<1000000:=by omega):Call X pm F.jK [aA l] H λr aa=>K pm H aa/\eJ aa r (fc l):=by
 refine Call.has b.jK rfl ?_;by_cases h:l=[]
 ·subst h;simp[iP,fc,eJ];exact K.refl g
 ·have c:(l==[])=false:=by simpa using h
  have i:l.isEmpty=false:=by simpa using h
  simp[iP,c,];refine aq.of (vX b.tozg g g') ?_;rintro r _ ⟨d,f⟩;have a:=a h
  rcases f with⟨e,rfl⟩ | ⟨q,p,e,rfl,xm⟩
  ·simp[isNum,e]at a
  ·simp[fc,h,rd,e,eJ];exact⟨d,xm⟩
def pN(ah up:Option Rat):Rat:=match ah with
 | some l=>l
 | none=>up.getD 0
theorem S1(k:ep X)(g:bs pm H){a b c:Value}{ah up:Option Rat}(eA:eJ H a ah)(l:eJ H b up)(_:c6 c=true):Call X pm F.oS [.agg #[a,b,c]] H λr aa=>K pm H aa/\b9 aa r (pN ah up):=by
 refine Call.P k.oS rfl λ_ j=>?_;obtain⟨f,e⟩:∃f,f=H.new (.cells [a,b,c] (.t T.oJ)):=⟨_,rfl⟩;have d:K pm H f:=by rw[e];exact K.new g _
 have h:f.get H.next=some (.cells [a,b,c] (.t T.oJ)):=by rw[e];exact b4
 obtain⟨_,i⟩:∃b,b=H.next:=⟨_,rfl⟩;rw[<-i]at h
 cases ah with
 | some _=>
   obtain⟨a,rfl,b⟩:=id eA;simp[g.pick,g.make,ptr,<-e,<-i,h];refine j _ _ _ ?_;simp;exact⟨d,⟨a,rfl,d.some g b⟩⟩
 | none=>
   obtain rfl:a=.pointer none:=eA
   cases up with
   | some _=>
     obtain⟨a,rfl,b⟩:=id l;simp[g.pick,g.make,ptr,<-e,<-i,h];refine j _ _ _ ?_;simp;exact⟨d,⟨a,rfl,d.some g b⟩⟩
   | none=>
     obtain rfl:b=.pointer none:=l;simp[g.pick,g.make,ptr,<-e,<-i,h];refine aq.of (az:=[.int .i64 0]) (o0 k.tozg d.h (n:=0) (by omega) (by omega)) ?_;rintro r _ ⟨a,c⟩;simp;refine j _ _ _ ?_;simp;exact⟨d.trans a,by simpa [pN]using c⟩
structure jN(H:ad)(P:bu)(v:Nat->Rat)(x:Nat)(a b c:Value):Prop where
 ah:eJ H a (P.ah x)
 up:eJ H b (P.up x)
 v:b9 H c (v x)
theorem jN.k{P:bu}{v:Nat->Rat}{x:Nat}{a b c:Value}(h:jN H P v x a b c)(u:aF pm n H aa):jN aa P v x a b c:=⟨h.ah.up u,h.up.up u,h.v.up u⟩
structure wm(P:bu)(v:Nat->Rat)(x t:Nat):Prop where
 ah:∀l,P.ah x=some l->aS l t
 up:∀u,P.up x=some u->aS u t
 v:aS (v x) t
section
variable(fr:ep X)(g:bs pm H){P:bu}{v:Nat->Rat}{x t:Nat}{a b c:Value}(cw:jN H P v x a b c)(hL:wm P v x t)(ph:t<=30000000)
include fr g cw hL ph
theorem GR{aG:Int}:Call X pm F.ns [.agg #[a,b,c],.int .i64 aG] H λr aa=>K pm H aa/\r=.bool (can P v x aG):=by
 refine Call.P fr.ns rfl λ_ l=>?_;obtain⟨m,i⟩:∃m,m=H.new (.cells [a,b,c] (.t T.oJ)):=⟨_,rfl⟩;have e:K pm H m:=by rw[i];exact K.new g _
 have j:m.get H.next=some (.cells [a,b,c] (.t T.oJ)):=by rw[i];exact b4
 obtain⟨_,k⟩:∃b,b=H.next:=⟨_,rfl⟩;rw[<-k]at j;have n:t<=fo:=aY ph (by decide);obtain⟨d,f,o⟩:=cw;obtain⟨s,u,p⟩:=hL;obtain⟨_,rfl,_⟩:=id o;have q:=o.up e;by_cases h:0<aG
 ·cases c:P.up x with
  | none=>
    rw[c]at f;obtain rfl:b=.pointer none:=f;have t:∃r,a=.pointer r:=by
     cases a:P.ah x with
     | none=>rw[a]at d;exact⟨_,d⟩
     | some _=>rw[a]at d;obtain⟨_,rfl,_⟩:=d;exact⟨_,rfl⟩
    obtain⟨r,rfl⟩:=t;simp[g.pick,g.make,ptr,<-i,<-k,j,h,bz];refine aq.not ?_;simp[bz];refine l _ _ _ ?_;simp[can,h,c];exact e
  | some r=>
    rw[c]at f;obtain⟨_,rfl,_⟩:=id f;have t:∃b,a=.pointer b:=by
     cases a:P.ah x with
     | none=>rw[a]at d;exact⟨_,d⟩
     | some _=>rw[a]at d;obtain⟨_,rfl,_⟩:=d;exact⟨_,rfl⟩
    obtain⟨b,rfl⟩:=t;simp[g.pick,g.make,ptr,<-i,<-k,j,h,bz];refine aq.of (q8 fr.tozg e.h q.of (b9.of (b9.up f e)) (p.bw n) ((u r c).bw n)) ?_;rintro _ _ ⟨rfl,rfl⟩;simp;refine l _ _ _ ?_;simp[can,h,c,qa];exact e
 ·have r:∃c,b=.pointer c:=by
   cases a:P.up x with
   | none=>rw[a]at f;exact⟨_,f⟩
   | some _=>rw[a]at f;obtain⟨_,rfl,_⟩:=f;exact⟨_,rfl⟩
  obtain⟨c,rfl⟩:=r
  cases b:P.ah x with
  | none=>
    rw[b]at d;obtain rfl:a=.pointer none:=d;simp[g.pick,g.make,ptr,<-i,<-k,j,h,bz];refine aq.not ?_;simp[bz];refine l _ _ _ ?_;simp[can,h,b];exact e
  | some a=>
    rw[b]at d;obtain⟨_,rfl,_⟩:=id d;simp[g.pick,g.make,ptr,<-i,<-k,j,h,bz];refine aq.of (q8 fr.tozg e.h q.of (b9.of (b9.up d e)) (p.bw n) ((s a b).bw n)) ?_;rintro _ _ ⟨rfl,rfl⟩;simp;refine l _ _ _ ?_;simp[can,h,b,wI];exact e
end
end Go.Dam.C
namespace Go.Dam.C
open Go Go.Dam
variable{X:ar}{pm:Perm}{H aa bL aj:ad}{n:Nat}
theorem eJ.ptr{v:Value}{o:Option Rat}(h:eJ H v o):∃p,v=.pointer p:=by
 cases o with
 | none=>exact⟨_,h⟩
 | some _=>obtain⟨_,rfl,_⟩:=h;exact⟨_,rfl⟩
section
variable(fr:ep X)(g:bs pm H){P:bu}{v:Nat->Rat}{x t:Nat}{a b c:Value}(cw:jN H P v x a b c)(hL:wm P v x t)(ph:t<=30000000)
include fr g cw hL ph
theorem BV:Call X pm F.mh [.agg #[a,b,c]] H λr aa=>K pm H aa/\r=.int .i64 (off P v x):=by
 refine Call.P fr.mh rfl λQ k=>?_;obtain⟨h,m⟩:∃h,h=H.new (.cells [a,b,c] (.t T.oJ)):=⟨_,rfl⟩;have d:K pm H h:=by rw[m];exact K.new g _
 have i:h.get H.next=some (.cells [a,b,c] (.t T.oJ)):=by rw[m];exact b4
 obtain⟨w,o⟩:∃b,b=H.next:=⟨_,rfl⟩;rw[<-o]at i;have n:t<=fo:=aY ph (by decide);obtain⟨j,f,p⟩:=cw;obtain⟨y,z,q⟩:=hL;obtain⟨_,rfl,_⟩:=id p;have r:=p.up d;have s:∀(L:bb),aK 1 L=some (.pointer (some ⟨w,0,none⟩))->(∀l,P.ah x=some l->¬v x<l)->aK 3 L=some (.bool false)->wp X pm (.code q2) L h [.aW 0,.seq vK] Q:=by
  intro L g A t;have c:off P v x=mN P v x:=by
   unfold off
   cases e:P.ah x with
   | none=>rfl
   | some l=>simp[A l e]
  cases a:P.up x with
  | none=>
    rw[a]at f;obtain rfl:b=.pointer none:=f;simp[g,t,i,bz];refine aq.not ?_;simp[bz];refine k _ _ _ ?_;simp[c,mN,a];exact d
  | some u=>
    rw[a]at f;obtain⟨_,rfl,_⟩:=id f;simp[g,t,i,];refine aq.of (q8 fr.tozg d.h r.of (b9.of (b9.up f d)) (q.bw n) ((z u a).bw n)) ?_;rintro _ _ ⟨rfl,rfl⟩;by_cases b:u<v x
    ·simp[wI,b];refine k _ _ _ ?_;simp[c,mN,a,b];exact d
    ·simp[wI,b];refine k _ _ _ ?_;simp[c,mN,a,b];exact d
 obtain⟨_,rfl⟩:=f.ptr
 cases e:P.ah x with
 | none=>
   rw[e]at j;obtain rfl:a=.pointer none:=j;simp[g.pick,g.make,ptr,<-m,<-o,i,bz,-q2];refine aq.not ?_;simp[bz,-q2,-vK];exact s _ (by simp) (λl b=>by rw[e]at b;cases b) (by simp)
 | some l=>
   rw[e]at j;obtain⟨_,rfl,_⟩:=id j;simp[g.pick,g.make,ptr,<-m,<-o,i, -q2];refine aq.of (q8 fr.tozg d.h r.of (b9.of (b9.up j d)) (q.bw n) ((y l e).bw n)) ?_;rintro _ _ ⟨rfl,rfl⟩;by_cases a:v x<l
   ·simp[bz,qa,a];refine k _ _ _ ?_;simp[off,e,a];exact d
   ·simp[qa,a,-q2,-vK];exact s _ (by simp) (λ_ b=>by rw[e]at b;cases b;exact a) (by simp)
theorem Ku{aG:Int}:Call X pm F.nB [.agg #[a,b,c],.int .i64 aG] H λr aa=>K pm H aa/\eJ aa r (room P v x aG):=by
 refine Call.P fr.nB rfl λ_ l=>?_;obtain⟨m,f⟩:∃m,m=H.new (.cells [a,b,c] (.t T.oJ)):=⟨_,rfl⟩;have d:K pm H m:=by rw[f];exact K.new g _
 have h:m.get H.next=some (.cells [a,b,c] (.t T.oJ)):=by rw[f];exact b4
 obtain⟨_,i⟩:∃b,b=H.next:=⟨_,rfl⟩;rw[<-i]at h;have n:t<=fo:=aY ph (by decide);obtain⟨j,k,o⟩:=cw;obtain⟨s,u,p⟩:=hL;obtain⟨_,rfl,_⟩:=id o;have q:=o.up d;obtain⟨_,rfl⟩:=j.ptr;obtain⟨_,rfl⟩:=k.ptr;by_cases e:0<aG
 ·have b:¬aG<0:=by omega
  cases a:P.up x with
  | none=>
    rw[a]at k;cases k;simp[g.pick,g.make,ptr,<-f,<-i,h,e,b,bz];refine l _ _ _ ?_;simp[room,e,b,a,eJ];exact d
  | some c=>
    rw[a]at k;obtain⟨_,t,_⟩:=id k;cases t;simp[g.pick,g.make,ptr,<-f,<-i,h,e,b,bz];refine aq.of (zp fr.tozg d.h (b9.of (b9.up k d)) q.of ((u c a).bw n) (p.bw n)) ?_;rintro r _ ⟨b,c⟩;simp;refine l _ _ _ ?_;simp[room,e,a,eJ];exact⟨d.trans b,c⟩
 ·by_cases a:aG<0
  ·cases b:P.ah x with
   | none=>
     rw[b]at j;cases j;simp[g.pick,g.make,ptr,<-f,<-i,h,e,a,bz];refine l _ _ _ ?_;simp[room,e,a,b,eJ];exact d
   | some c=>
     rw[b]at j;obtain⟨_,t,_⟩:=id j;cases t;simp[g.pick,g.make,ptr,<-f,<-i,h,e,a,bz];refine aq.of (zp fr.tozg d.h q.of (b9.of (b9.up j d)) (p.bw n) ((s c b).bw n)) ?_;rintro r _ ⟨c,j⟩;simp;refine l _ _ _ ?_;simp[room,e,a,b,eJ];exact⟨d.trans c,j⟩
  ·simp[g.pick,g.make,ptr,<-f,<-i,h,e,a,bz];refine l _ _ _ ?_;simp[room,e,a,eJ];exact d
end
abbrev tyT:Nat:=T.T0
abbrev tyV:Nat:=T.oJ
theorem eG{ah:Nat}{ok:List Nat}{o:Option Nat}{b:Nat}(h:ah<=b):Perm.may ⟨ah,ok,o⟩ b=true:=by
 unfold Perm.may;rw[cg];simp[h]
def aP(b k:Nat):Value:=if k=0 then .slice none 0 0 else .slice (some ⟨b,0,none⟩) k k
theorem cO{b k:Nat}(h:0<k):aP b k=.slice (some ⟨b,0,none⟩) k k:=aC (by omega)
def mq(H:ad)(b k:Nat)(f:Nat->Nat):Prop:=∃a,H.get b=some (.cells a (.n 1))/\a.length=k/\∀i,i<k->a[i]? = some (.int .i64 (f i:Int))
def p1(H:ad)(P:bu)(b k:Nat)(v:Nat->Rat):Prop:=∃a,H.get b=some (.cells a (.n 3))/\a.length=k*3/\∀x,x<k->∃p q c,a[x*3]? = some p/\a[x*3+1]? = some q/\a[x*3+2]? = some c/\jN H P v x p q c
def tk(H:ad)(b k w:Nat)(c:Nat->Nat):Prop:=∃a,H.get b=some (.cells a (.n 1))/\a.length=k/\∀i,i<k->a[i]? = some (.slice (some ⟨c (5+i),0,none⟩) w w)
structure cl(P:bu)(ak:Nat)(H:ad)(ai:Nat->Nat)(lc bo:Value)(T:bd):Prop where
 t:H.get (ai 0)=some (.cells [lc,bo,aP (ai 1) (P.n+P.m),aP (ai 2) P.m,aP (ai 3) P.n,aP (ai 4) P.m] (.t tyT))
 v:0<P.n+P.m->p1 H P (ai 1) (P.n+P.m) T.v
 r:0<P.m->mq H (ai 2) P.m T.rows
 c:0<P.n->mq H (ai 3) P.n T.a
 m:0<P.m->tk H (ai 4) P.m P.n ai
 row:∀i,i<P.m->dI H (ai (5+i)) P.n P.n (T.M i)
 inj:∀i j,i<5+P.m->j<5+P.m->ai i=ai j->i=j
 ge:∀i,i<5+P.m->ak<=ai i
theorem mq.ext{b k:Nat}{f:Nat->Nat}(h:mq H b k f)(e:∀y,H.get b=some y->aa.get b=some y):mq aa b k f:=let ⟨a,c,d⟩:=h;⟨a,e _ c,d⟩
theorem tk.ext{b k w:Nat}{f:Nat->Nat}(h:tk H b k w f)(e:∀y,H.get b=some y->aa.get b=some y):tk aa b k w f:=let ⟨a,c,d⟩:=h;⟨a,e _ c,d⟩
theorem p1.ext{P:bu}{b k:Nat}{v:Nat->Rat}(h:p1 H P b k v)(u:aF pm n H aa)(e:∀y,H.get b=some y->aa.get b=some y):p1 aa P b k v:=by
 obtain⟨a,b,c,d⟩:=h;refine⟨a,e _ b,c,λx a=>?_⟩;obtain⟨p,q,c,b,f,g,i⟩:=d x a;exact⟨p,q,c,b,f,g,i.k u⟩
theorem dI.ext{c w k:Nat}{x:Nat->Rat}(h:dI H c w k x)(u:aF pm n H aa)(e:∀y,H.get c=some y->aa.get c=some y):dI aa c w k x:=by
 obtain⟨a,b,c,d⟩:=h;refine⟨a,e _ b,c,λi a=>?_⟩;obtain⟨p,b,c⟩:=d i a;exact⟨p,b,c.up u⟩
section
variable{P:bu}{ak:Nat}{ai:Nat->Nat}{lc bo:Value}{T:bd}
theorem cl.k(h:cl P ak H ai lc bo T)(g:bs pm H)(k:K pm H aa):cl P ak aa ai lc bo T where
 t:=k.some g h.t
 v:=λa=>(h.v a).ext k λ_ e=>k.some g e
 r:=λa=>(h.r a).ext λ_ e=>k.some g e
 c:=λa=>(h.c a).ext λ_ e=>k.some g e
 m:=λa=>(h.m a).ext λ_ e=>k.some g e
 row:=λi a=>(h.row i a).ext k λ_ e=>k.some g e
 inj:=h.inj
 ge:=h.ge
theorem cl.mono(h:cl P ak H ai lc bo T){cf:Nat}(a:cf<=ak):cl P cf H ai lc bo T:=⟨h.t,h.v,h.r,h.c,h.m,h.row,h.inj,λi b=>aY a (h.ge i b)⟩
theorem cl.ne(h:cl P ak H ai lc bo T){i j:Nat}(aJ:i<5+P.m)(a:j<5+P.m)(b:i≠j):ai i≠ai j:=λe=>b (h.inj i j aJ a e)
theorem e7{b c:Nat}{x:bk}(h:b≠c):∀y,H.get b=some y->(H.put c x).get b=some y:=λy e=>by rw[a7 (h:=h)];exact e
theorem ql{bN:List Value}{i j:Nat}{u:Value} (h:i≠j:=by omega):(bN.set j u)[i]? = bN[i]?:=by
 rw[List.getElem?_set,aC (λe=>h e.symm)]
theorem cl.K8(h:cl P ak H ai lc bo T)(g:bs pm H){x:Nat}(b:x<P.n+P.m){u:Value}{q:Rat}(m:b9 H u q){bN:List Value}(e:H.get (ai 1)=some (.cells bN (.n 3))):
 aF pm ak H (H.put (ai 1) (.cells (bN.set (x*3+2) u) (.n 3)))/\cl P ak (H.put (ai 1) (.cells (bN.set (x*3+2) u) (.n 3))) ai lc bo {T with v:=λy=>if y=x then q else T.v y}:=by
 have a:aF pm ak H (H.put (ai 1) (.cells (bN.set (x*3+2) u) (.n 3))):=aF.put (.refl g) (h.ge 1 (by omega)) e (by simp) _;have ne:∀i,i<5+P.m->i≠1->ai i≠ai 1:=λi d b=>h.ne d (by omega) b;refine⟨a,e7 (ne 0 (by omega) (by decide)) _ h.t,λb=>?_,λb=>(h.r b).ext (e7 (ne 2 (by omega) (by decide))),λb=>(h.c b).ext (e7 (ne 3 (by omega) (by decide))),λb=>(h.m b).ext (e7 (ne 4 (by omega) (by decide))),λi d=>(h.row i d).ext a (e7 (ne _ (by omega) (by omega))),h.inj,h.ge⟩;obtain⟨_,f,n,o⟩:=h.v b;rw[e]at f;cases f;refine⟨_,b1,by rw[sB];exact n,λy b=>?_⟩;obtain⟨p,r,s,j,k,t,c⟩:=o y b;by_cases l:y=x
 ·subst l;refine⟨p,r,u,by rw[ql];exact j,by rw[ql];exact k,by rw[List.getElem?_set,aT rfl,aT (by omega)],c.ah.up a,c.up.up a,?_⟩;simpa using m.up a
 ·refine⟨p,r,s,by rw[ql];exact j,by rw[ql];exact k,by rw[ql];exact t,c.ah.up a,c.up.up a,?_⟩;simpa [l]using c.v.up a
theorem cl.yv(h:cl P ak H ai lc bo T)(g:bs pm H){i k:Nat}(aJ:i<P.m)(c:k<P.n){u:Value}{q:Rat}(m:b9 H u q){bN:List Value}(f:H.get (ai (5+i))=some (.cells bN (.n 1))):
 aF pm ak H (H.put (ai (5+i)) (.cells (bN.set k u) (.n 1)))/\cl P ak (H.put (ai (5+i)) (.cells (bN.set k u) (.n 1))) ai lc bo {T with M:=λa b=>if a=i/\b=k then q else T.M a b}:=by
 have d:aF pm ak H (H.put (ai (5+i)) (.cells (bN.set k u) (.n 1))):=aF.put (.refl g) (h.ge _ (by omega)) f (by simp) _;have ne:∀j,j<5+P.m->j≠5+i->ai j≠ai (5+i):=λj e c=>h.ne e (by omega) c;refine⟨d,e7 (ne 0 (by omega) (by omega)) _ h.t,λc=>(h.v c).ext d (e7 (ne 1 (by omega) (by omega))),λc=>(h.r c).ext (e7 (ne 2 (by omega) (by omega))),λc=>(h.c c).ext (e7 (ne 3 (by omega) (by omega))),λc=>(h.m c).ext (e7 (ne 4 (by omega) (by omega))),λj e=>?_,h.inj,h.ge⟩;by_cases l:j=i
 ·subst l;obtain⟨_,g,i,n⟩:=h.row j e;rw[f]at g;cases g;refine⟨_,b1,by rw[sB];exact i,λb c=>?_⟩;obtain⟨p,o,q⟩:=n b c;by_cases a:b=k
  ·subst a;refine⟨u,by rw[List.getElem?_set,aT rfl,aT (by omega)],?_⟩;simpa using m.up d
  ·refine⟨p,by rw[ql (h:=a)];exact o,?_⟩;simpa [a]using q.up d
 ·have:=(h.row j e).ext d (e7 (ne _ (by omega) (by omega)));refine this.congr λb _=>?_;simp[l]
theorem cl.congr{a:bd}(h:cl P ak H ai lc bo T)(d:∀x,x<P.n+P.m->a.v x=T.v x)(e:∀i,i<P.m->a.rows i=T.rows i)(f:∀k,k<P.n->a.a k=T.a k)(g:∀i k,i<P.m->k<P.n->a.M i k=T.M i k):cl P ak H ai lc bo a where
 t:=h.t
 v:=λb=>by
  obtain⟨a,c,i,j⟩:=h.v b;refine⟨a,c,i,λx c=>?_⟩;obtain⟨p,q,i,k,l,m,a⟩:=j x c;exact⟨p,q,i,k,l,m,a.ah,a.up,by rw[d x c];exact a.v⟩
 r:=λb=>by
  obtain⟨a,c,d,j⟩:=h.r b;exact⟨a,c,d,λi a=>by rw[e i a];exact j i a⟩
 c:=λb=>by
  obtain⟨c,d,e,j⟩:=h.c b;exact⟨c,d,e,λi a=>by rw[f i a];exact j i a⟩
 m:=h.m
 row:=λi a=>(h.row i a).congr λk b=>g i k a b
 inj:=h.inj
 ge:=h.ge
theorem mq.set{b k:Nat}{f:Nat->Nat}(h:mq H b k f){i v:Nat}(aJ:i<k){bN:List Value}(c:H.get b=some (.cells bN (.n 1))):mq (H.put b (.cells (bN.set i (.int .i64 (v:Int))) (.n 1))) b k λj=>if j=i then v else f j:=by
 obtain⟨_,a,b,d⟩:=h;rw[c]at a;cases a;refine⟨_,b1,by rw[sB];exact b,λj f=>?_⟩;by_cases e:j=i
 ·subst e;rw[List.getElem?_set,aT rfl,aT (by omega)];simp
 ·rw[ql (h:=e),d j f];simp[e]
theorem cl.SF(h:cl P ak H ai lc bo T)(g:bs pm H){i v:Nat}(aJ:i<P.m){bN:List Value}(d:H.get (ai 2)=some (.cells bN (.n 1))):
 aF pm ak H (H.put (ai 2) (.cells (bN.set i (.int .i64 (v:Int))) (.n 1)))/\cl P ak (H.put (ai 2) (.cells (bN.set i (.int .i64 (v:Int))) (.n 1))) ai lc bo {T with rows:=λj=>if j=i then v else T.rows j}:=by
 have b:aF pm ak H (H.put (ai 2) (.cells (bN.set i (.int .i64 (v:Int))) (.n 1))):=aF.put (.refl g) (h.ge _ (by omega)) d (by simp) _;have ne:∀j,j<5+P.m->j≠2->ai j≠ai 2:=λj c a=>h.ne c (by omega) a;exact⟨b,e7 (ne 0 (by omega) (by omega)) _ h.t,λa=>(h.v a).ext b (e7 (ne 1 (by omega) (by omega))),λa=>(h.r a).set aJ d,λa=>(h.c a).ext (e7 (ne 3 (by omega) (by omega))),λa=>(h.m a).ext (e7 (ne 4 (by omega) (by omega))),λj c=>(h.row j c).ext b (e7 (ne _ (by omega) (by omega))),h.inj,h.ge⟩
theorem cl.hX(h:cl P ak H ai lc bo T)(g:bs pm H){i v:Nat}(aJ:i<P.n){bN:List Value}(e:H.get (ai 3)=some (.cells bN (.n 1))):
 aF pm ak H (H.put (ai 3) (.cells (bN.set i (.int .i64 (v:Int))) (.n 1)))/\cl P ak (H.put (ai 3) (.cells (bN.set i (.int .i64 (v:Int))) (.n 1))) ai lc bo {T with a:=λj=>if j=i then v else T.a j}:=by
 have c:aF pm ak H (H.put (ai 3) (.cells (bN.set i (.int .i64 (v:Int))) (.n 1))):=aF.put (.refl g) (h.ge _ (by omega)) e (by simp) _;have ne:∀j,j<5+P.m->j≠3->ai j≠ai 3:=λj d b=>h.ne d (by omega) b;exact⟨c,e7 (ne 0 (by omega) (by omega)) _ h.t,λb=>(h.v b).ext c (e7 (ne 1 (by omega) (by omega))),λb=>(h.r b).ext (e7 (ne 2 (by omega) (by omega))),λb=>(h.c b).set aJ e,λb=>(h.m b).ext (e7 (ne 4 (by omega) (by omega))),λj d=>(h.row j d).ext c (e7 (ne _ (by omega) (by omega))),h.inj,h.ge⟩
end
structure gQ(P:bu)(T:bd)(t:Nat):Prop where
 v:∀x,x<P.n+P.m->wm P T.v x t
 M:∀i k,i<P.m->k<P.n->aS (T.M i k) t
structure ll(P:bu):Prop where
 n:P.n<=20
 m:P.m<=40
section
variable{P:bu}{ak:Nat}{ai:Nat->Nat}{lc bo:Value}{T:bd}
theorem k9(b k:Nat):∃a,aP b k=.slice a k k/\(0<k->a=some ⟨b,0,none⟩):=by
 by_cases h:k=0
 ·subst h;exact⟨none,rfl,λh=>by omega⟩
 ·exact⟨_,cO (by omega),λ_=>rfl⟩
theorem Ja(h:dx P T){af:Nat}(a:af<P.n){q:Rat}{i:Nat}(aJ:i<P.m):fj T af q i (T.rows i)=T.v (T.rows i):=by
 rw[BO h a aJ i (by omega),aC (by omega)]
theorem Jd(j:ep X)(c:bs pm aj)(N:pm.ah<=ak)(O:ak<=aj.next)(Q:ll P)(ez:cl P ak aj ai lc bo T)(p:dx P T){t:Nat}(g:t<=100000)(r:gQ P T t){af:Nat}(d:af<P.n){w:Value}{q:Rat}(R:b9 aj w q)(C:aS q t):
 Call X pm F.nx [.pointer (some ⟨ai 0,0,none⟩),.int .i64 (af:Int),w] aj λ_ aa=>aF pm ak aj aa/\cl P ak aa ai lc bo (T.e6 P af q):=by
 refine Call.P j.nx rfl λ_ hQ=>?_;have ar:=Q.n;have ar:=Q.m;have s:0<P.n+P.m:=by omega
 obtain⟨az,u,_,Q⟩:=ez.v s;obtain⟨_,S,_,c3⟩:=ez.c (by omega);have y:=p.c af d;obtain⟨_,_,al,_,_,e3,e4⟩:=Q _ y;have an:=c3 af d;have z:=ez.t;rw[cO s,cO (show 0<P.n by omega)]at z;have ao:∀Q i,i<5+P.m->Perm.may ⟨pm.ah,pm.ok,Q⟩ (ai i)=true:=λQ i b=>eG (aY N (ez.ge i b));have Q:T.a af<1000:=by omega
 simp[-EJ];refine cy.of c.ah rfl ?_;have Q:=c.lt z;have ar:=c.lt u;have ar:=c.lt S;simp[b7,c.none,c.J,z,u,S,d,an,y,cj,cd,Q, ar,  -yZ];have z:K pm aj (aj.up 13):=(K.refl c).up 13;simp[e3,-yZ];have Q:=(r.v _ y).v;refine aq.of (az:=[al,w]) (q5 j.tozg z.h (e4.v.up z).of (R.up z).of (Q.bw (aY g (by decide))) (C.bw (aY g (by decide)))) ?_;rintro _ U ⟨Q,V⟩;have k:=z.trans Q;have z:=k.h;obtain⟨W,t2⟩:=(ez.k c k).K8 z y V (k.some c u);have au:=k.some c u;obtain⟨Y,rfl,_⟩:=id V;have av:=ao pm.num 1 (by omega);have aw:T.a af*3+2<az.length:=by omega
 have c:fj T af q 0=λy=>if y=T.a af then T.v (T.a af)+q else T.v y:=by
  funext x;show(if x=T.a af then T.v x+q else T.v x)=_;by_cases e:x=T.a af
  ·simp[e]
  ·simp[e]
 have D:cl P ak (U.put (ai 1) (.cells (az.set (T.a af*3+2) (.pointer (some ⟨Y,0,none⟩))) (.n 3))) ai lc bo {T with v:=fj T af q 0}:=by rw[c];exact t2
 obtain⟨E,Z⟩:∃E,E=U.put (ai 1) (.cells (az.set (T.a af*3+2) (.pointer (some ⟨Y,0,none⟩))) (.n 3)):=⟨_,rfl⟩;rw[<-Z]at W D;have u:aF pm ak aj E:=(k.mono O).trans W;have c:=D.t;obtain⟨k,y,ax⟩:=k9 (ai 4) P.m;rw[y]at c;simp[au,av,aw,<-Z,c,-EI]
 refine eE (σ:=Unit) P.m (λ_ _=>[(0,.pointer (some ⟨ai 0,0,none⟩)),(1,.int .i64 (af:Int)),(2,w),(34,.slice k P.m P.m)])
  (λi _ aa=>aF pm ak aj aa/\cl P ak aa ai lc bo {T with v:=fj T af q i}) () (by simp) ⟨u,D⟩ ?_ ?_
 ·rintro i _ l b ⟨m,f⟩;have a:=m.h;obtain rfl:=ax (by omega);obtain⟨_,c,_,k⟩:=f.m (by omega);obtain⟨_,F,_,u⟩:=f.row i b;obtain⟨X,aa,G⟩:=u af d;have u:=k i b;simp[c,u,b,F,aa,d];refine aq.of (az:=[X]) (jr j.tozg a G.of ((r.M i af b d).bw (aY g (by decide)))) ?_;rintro _ l ⟨rfl,rfl⟩;by_cases H:T.M i af=0
  ·simp[hB,H];refine⟨m,f.congr (λx _=>?_) (λ_ _=>rfl) (λ_ _=>rfl) λ_ _ _ _=>rfl⟩;show(if x=T.rows i then fj T af q i x+T.M i af*q else fj T af q i x)=fj T af q i x;rw[H];split<;>grind
  ·obtain⟨ai,A,_,c⟩:=f.v s;obtain⟨_,r1,_,k⟩:=f.r (by omega);have B:=p.r i b;obtain⟨_,_,pv,_,_,f3,u⟩:=c _ B;have I:=f.t;rw[cO s,cO (show 0<P.m by omega)]at I;have aj:=k i b;have q0:=a.lt I;have c:=a.lt A;have q2:=a.lt r1;have c:=a.lt F;have fv:b9 l pv (T.v (T.rows i)):=by
    have:=u.v;rwa [show({T with v:=fj T af q i}:bd).v (T.rows i)=fj T af q i (T.rows i) from rfl,Ja p d b]at this
   simp[hB,H,-yY];refine cy.of a.ah rfl ?_;simp[b7,a.none,a.J,I, r1,b,aj,B,cj,cd,q0, q2,  -yY];have n:K pm l (l.up 13):=(K.refl a).up 13;generalize l.up 13=P at n|-;have e:=n.h;have ab:=n.some a A;have ad:=n.some a F;have ak:=e.lt ab;have aq:=e.lt ad;refine cy.of e.ah rfl ?_;have c:K pm P (P.up 15):=(K.refl e).up 15;have h:=n.trans c;have v:t<=fo:=aY g (by decide);have ay:t+t<=fo:=aY (Nat.add_le_add g g) (by decide);simp[b7,e.none,e.J,ab,f3,ad,aa,d];have ae:=(R.up m).up h;have ag:=r.M i af b d;refine eM c.h (az:=[X,w]) (by simp[e.none]) rfl (λaA J=>pY j.tozg J (G.up h).of ae.of (ag.bw v) (C.bw v)) ?_;rintro c _ o f6;have g:=o.res e;simp;refine gS o.h (az:=[pv,c]) (by simp[g]) rfl (λaA J=>q5 j.tozg J ((fv.up h).up o).of f6.of ((r.v _ B).v.bw v) ((kt ag C).bw ay)) ?_;rintro _ _ L f7;have x2:=(K.trans o L).res e;have M:=h.trans (o.trans L);have ah:=M.some a A;obtain⟨_,rfl,_⟩:=id f7;have c:=λe=>nO (G.up h) ae (h.some a A) e;simp[x2,ah,eG (aY N (ez.ge 1 (by omega))),show T.rows i*3+2<ai.length by omega,cj,cd,ak,aq, dM,c];obtain⟨c,e⟩:=(f.k a M).K8 L.h B f7 ah;refine⟨(m.k M (aY O m.next)).trans c,e.congr (λx _=>?_) (λ_ _=>rfl) (λ_ _=>rfl) λ_ _ _ _=>rfl⟩;show(if x=T.rows i then fj T af q i x+T.M i af*q else fj T af q i x)=if x=T.rows i then T.v (T.rows i)+T.M i af*q else fj T af q i x
   by_cases e:x=T.rows i
   ·rw[aT e,aT e,e,Ja p d b]
   ·rw[aC e,aC e]
 ·rintro _ _ ⟨a,b⟩;simp;refine hQ _ _ _ ?_;simp;exact⟨a,b⟩
end
section
variable{P:bu}{ak:Nat}{ai:Nat->Nat}{lc bo:Value}{T:bd}
def k7(T:bd)(i k:Nat)(r:Nat->Rat):bd:={T with M:=λx y=>if x=i/\y<k then r y else T.M x y}
theorem vh{i k:Nat}{r:Nat->Rat}{q:Rat}(h:q=r k)(x y:Nat):(k7 T i (k+1) r).M x y=if x=i/\y=k then q else(k7 T i k r).M x y:=by
 subst h;show(if x=i/\y<k+1 then r y else T.M x y)=if x=i/\y=k then r k else(if x=i/\y<k then r y else T.M x y)
 by_cases e:x=i
 ·by_cases a:y=k
  ·subst a;simp[e]
  ·by_cases b:y<k
   ·simp[e,a,b,show y<k+1 by omega]
   ·simp[e,a,b,show ¬y<k+1 by omega]
 ·simp[e]
theorem KC{i k:Nat}{r:Nat->Rat}(h:T.M i k=r k)(x y:Nat):(k7 T i (k+1) r).M x y=(k7 T i k r).M x y:=by
 rw[vh rfl];split
 ·rename_i e;obtain⟨rfl,rfl⟩:=e;show r y=if x=x/\y<y then r y else T.M x y
  simp[h]
 ·rfl
theorem KB{i k:Nat}{r:Nat->Rat}:(k7 T i k r).M i k=T.M i k:=by
 show(if i=i/\k<k then r k else T.M i k)=_;simp
def fE(T:bd)(a af i k:Nat):Rat:=if k=af then T.M i af*T.M a af else T.M i k+T.M i af*T.M a k
theorem RR(m:ep X)(J:bs pm aj)(B:pm.ah<=ak)(C:ak<=aj.next)(D:ll P)(ez:cl P ak aj ai lc bo T){t:Nat}(p:t<=400000)(q:∀i k,i<P.m->k<P.n->aS (T.M i k) t){a i af:Nat}(eA:a<P.m)(aJ:i<P.m)(E:i≠a)(M:af<P.n)
 {w:Value} (N:b9 aj w (T.M i af)) {L:bb} {u64:Value} (O:aK 0 L=some (.pointer (some ⟨ai 0,0,none⟩))) (R:aK 1 L=some (.int .i64 (a:Int))) (S:aK 2 L=some (.int .i64 (af:Int))) (U:aK 6 L=some (.slice (some ⟨ai (5+a),0,none⟩) P.n P.n)) (E:aK 10 L=some (.slice (some ⟨ai (5+i),0,none⟩) P.n P.n)) (V:aK 11 L=some w)
 (W:aK 64 L=some u64) (Y:aK 65 L=some (.int .i64 (P.m:Int))) (Z:aK 66 L=some (.int .i64 (i:Int))) {Q:b5}
 (ab:∀aN aa,aF pm ak aj aa->cl P ak aa ai lc bo (k7 T i P.n (fE T a af i))->Sub [(66,.int .i64 (i:Int)),(65,.int .i64 (P.m:Int)),(0,.pointer (some ⟨ai 0,0,none⟩)),(1,.int .i64 (a:Int)),(2,.int .i64 (af:Int)),(6,.slice (some ⟨ai (5+a),0,none⟩) P.n P.n),(64,u64)] aN->Q .normal aN aa):
 wp X pm (.code tc) L aj [] Q:=by
 have ag:=D.n;have ag:=D.m;have e:t<=fo:=aY p (by decide);have ad:t+t<=fo:=aY (Nat.add_le_add p p) (by decide);have ae:=eG (ok:=pm.ok) (o:=pm.num) (aY B (ez.ge (5+i) (by omega)));have p:=ez.ne (i:=5+i) (j:=5+a) (by omega) (by omega) (by omega);simp[E,-EK]
 refine eE (σ:=Unit) P.n (λ_ _=>[(66,.int .i64 (i:Int)),(65,.int .i64 (P.m:Int)),(0,.pointer (some ⟨ai 0,0,none⟩)),(1,.int .i64 (a:Int)),(2,.int .i64 (af:Int)),(6,.slice (some ⟨ai (5+a),0,none⟩) P.n P.n),(10,.slice (some ⟨ai (5+i),0,none⟩) P.n P.n),(11,w),(64,u64)])
  (λk _ aa=>aF pm ak aj aa/\cl P ak aa ai lc bo (k7 T i k (fE T a af i))) () (by simp[O,R,S,U,E,V,W,Y,Z]) ⟨aF.refl J,ez.congr (λ_ _=>rfl) (λ_ _=>rfl) (λ_ _=>rfl) λ_ _ _ _=>by simp[k7]⟩ ?_ ?_
 ·rintro k _ r c ⟨d,g⟩;have b:=d.h;obtain⟨F,h,_,p⟩:=g.row i aJ;obtain⟨_,j,_,D⟩:=g.row a eA;obtain⟨L,P,G⟩:=p k c;obtain⟨s,t,f⟩:=D k c;rw[KB]at G;have p:(k7 T i k (fE T a af i)).M a k=T.M a k:=by
   show(if a=i/\k<k then _ else _)=_;rw[aC (by omega)]
  rw[p]at f;have n:=N.up d;have u:=q i af aJ M;have o:=q a k eA c;have Q:=q i k aJ c;by_cases v:k=af
  ·subst v;simp[j,t,c,-EY];refine aq.of (az:=[w,s]) (pY m.tozg b n.of f.of (u.bw e) (o.bw e)) ?_;rintro _ _ ⟨a,i⟩;obtain⟨_,rfl,_⟩:=id i;have l:=a.some b h;obtain⟨p,q⟩:=(g.k b a).yv a.h aJ c i l;simp[l,c,ae,show k<F.length by omega];refine⟨(d.k a (aY C d.next)).trans p,q.congr (λ_ _=>rfl) (λ_ _=>rfl) (λ_ _=>rfl) λx y _ _=>vh (by simp[fE]) x y⟩
  ·have p:¬((k:Int)=(af:Int)):=by omega
   simp[p,j,t,c,-EZ,-ES];refine aq.of (az:=[s]) (jr m.tozg b f.of (o.bw e)) ?_;rintro _ r ⟨rfl,rfl⟩;by_cases x:T.M a k=0
   ·simp[hB,x];refine⟨d,g.congr (λ_ _=>rfl) (λ_ _=>rfl) (λ_ _=>rfl) λa y _ _=>KC ?_ a y⟩;rw[fE,aC v,x];grind
   ·have T:=b.lt h;have X:=b.lt j;simp[hB,x];refine cy.of b.ah rfl ?_;have a:K pm r (r.up 15):=(K.refl b).up 15;simp[b7,b.none,b.J,h,P,j,t,c];have d1:=λp=>nO (n.up a) (f.up a) (a.some b h) p;have q:=λp=>nO (n.up a) (f.up a) (a.some b j) p;refine eM a.h (az:=[w,s]) (by simp[b.none]) rfl (λaa y=>pY m.tozg y (n.up a).of (f.up a).of (u.bw e) (o.bw e)) ?_;rintro f _ l f6;have j:=l.res b;simp;refine gS l.h (az:=[L,f]) (by simp[j]) rfl (λaa y=>q5 m.tozg y ((G.up a).up l).of f6.of (Q.bw e) ((kt u o).bw ad)) ?_;rintro _ _ z H;have x2:=(K.trans l z).res b;have A:=a.trans (l.trans z);have I:=A.some b h;obtain⟨_,rfl,_⟩:=id H;simp[x2,I,c,eG (aY B (ez.ge (5+i) (by omega))),show k<F.length by omega,cj,cd,T,X, dM,d1,];obtain⟨a,e⟩:=(g.k b A).yv z.h aJ c H I;refine⟨(d.k A (aY C d.next)).trans a,e.congr (λ_ _=>rfl) (λ_ _=>rfl) (λ_ _=>rfl) λx y _ _=>vh (by simp[fE,v]) x y⟩
 ·rintro _ _ ⟨a,b⟩;simp;exact ab _ _ a b (by simp)
end
section
variable{P:bu}{ak:Nat}{ai:Nat->Nat}{lc bo:Value}{T:bd}
theorem QK{a af k t:Nat}(b:∀k,k<P.n->aS (T.M a k) t)(e:k<P.n)(c:af<P.n)(d:T.M a af≠0):aS (dO T a af k) (2*t):=by
 unfold dO;split
 ·exact en (Ll (b af c) d) (by omega)
 ·exact yG (oF (b k e)) (b af c) d
def j3(T:bd)(a af i:Nat):bd:={T with M:=λx y=>if x=a then dO T a af y else if x<i then(T.r0 a af).M x y else T.M x y}
theorem RS(e:ep X)(z:bs pm aj)(A:pm.ah<=ak)(p:ak<=aj.next)(B:ll P)(ez:cl P ak aj ai lc bo T){t:Nat}(C:t<=100000){a af:Nat}(eA:a<P.m)(D:af<P.n)(q:∀k,k<P.n->aS (T.M a k) t)(r:T.M a af≠0)
 {w:Value} (E:b9 aj w (T.M a af)) {au:List Fr} {L:bb} (F:aK 0 L=some (.pointer (some ⟨ai 0,0,none⟩))) (G:aK 1 L=some (.int .i64 (a:Int))) (H:aK 2 L=some (.int .i64 (af:Int))) (I:aK 6 L=some (.slice (some ⟨ai (5+a),0,none⟩) P.n P.n)) (J:aK 7 L=some w) (K:aK 25 L=some (.int .i64 (P.n:Int))) (M:aK 26 L=some (.int .i64 0)) {Q:b5}
 (N:∀aN aa,aF pm ak aj aa->cl P ak aa ai lc bo (j3 T a af 0)->Sub [(0,.pointer (some ⟨ai 0,0,none⟩)),(1,.int .i64 (a:Int)),(2,.int .i64 (af:Int)),(6,.slice (some ⟨ai (5+a),0,none⟩) P.n P.n)] aN->wp X pm (.res .normal) aN aa au Q):
 wp X pm (.code y0) L aj au Q:=by
 have O:=B.n;have f:t<=fo:=aY C (by decide);have s:=eG (ok:=pm.ok) (o:=pm.num) (aY A (ez.ge (5+a) (by omega)));simp[-EM]
 refine eE (σ:=Unit) P.n (λ_ _=>[(0,.pointer (some ⟨ai 0,0,none⟩)),(1,.int .i64 (a:Int)),(2,.int .i64 (af:Int)),(6,.slice (some ⟨ai (5+a),0,none⟩) P.n P.n),(7,w)])
  (λk _ aa=>aF pm ak aj aa/\cl P ak aa ai lc bo (k7 T a k (dO T a af))) () (by simp[F,G,H,I,J,K,M]) ⟨aF.refl z,ez.congr (λ_ _=>rfl) (λ_ _=>rfl) (λ_ _=>rfl) λ_ _ _ _=>by simp[k7]⟩ ?_ ?_
 ·rintro k _ L b ⟨c,g⟩;have d:=c.h;obtain⟨z,h,_,A⟩:=g.row a eA;obtain⟨o,t,i⟩:=A k b;rw[KB]at i;have u:=E.up c;have v:=q af D;have j:=q k b;have x:k<z.length:=by omega
  by_cases l:k=af
  ·subst l;simp[-EU];refine aq.of (az:=[.int .i64 1]) (o0 e.tozg d (n:=1) (by omega) (by omega)) ?_;rintro k _ ⟨a,q⟩;simp[-ET];refine aq.of (az:=[k,w]) (vT e.tozg a.h q.of (u.up a).of (by decide) (v.bw f) r) ?_;rintro _ _ ⟨m,_,rfl,y⟩;obtain⟨_,rfl,_⟩:=id y;have k:=a.trans m;have a:=k.some d h;obtain⟨q,z⟩:=(g.k d k).yv m.h eA b y a;simp[a,b,s,x];refine⟨(c.k k (aY p c.next)).trans q,z.congr (λ_ _=>rfl) (λ_ _=>rfl) (λ_ _=>rfl) λa y _ _=>vh (by simp[dO]) a y⟩
  ·have q:¬((k:Int)=(af:Int)):=by omega
   simp[q,h,t,b,-EX,-EP];refine aq.of (az:=[o]) (jr e.tozg d i.of (j.bw f)) ?_;rintro _ L ⟨rfl,rfl⟩;by_cases m:T.M a k=0
   ·simp[hB,m];refine⟨c,g.congr (λ_ _=>rfl) (λ_ _=>rfl) (λ_ _=>rfl) λa y _ _=>KC ?_ a y⟩;rw[dO,aC l,m];grind
   ·simp[hB,m,h,t,b,-EW];refine aq.of (az:=[o]) (wa e.tozg d i.of (j.bw f)) ?_;rintro i _ ⟨a,m⟩;simp[-EV];refine aq.of (az:=[i,w]) (vT e.tozg a.h m.of (u.up a).of ((oF j).bw f) (v.bw f) r) ?_;rintro _ _ ⟨k,_,rfl,n⟩;obtain⟨_,rfl,_⟩:=id n;have e:=a.trans k;have a:=e.some d h;obtain⟨f,h⟩:=(g.k d e).yv k.h eA b n a;simp[a,b,s,x];refine⟨(c.k e (aY p c.next)).trans f,h.congr (λ_ _=>rfl) (λ_ _=>rfl) (λ_ _=>rfl) λx y _ _=>vh (by simp[dO,l]) x y⟩
 ·rintro _ _ ⟨b,c⟩;simp;refine N _ _ b (c.congr (λ_ _=>rfl) (λ_ _=>rfl) (λ_ _=>rfl) λx y _ b=>?_) (by simp);show(if x=a then dO T a af y else if x<0 then _ else T.M x y)=if x=a/\y<P.n then dO T a af y else T.M x y
  by_cases e:x=a
  ·simp[e,b]
  ·simp[e]
end
end Go.Dam.C
