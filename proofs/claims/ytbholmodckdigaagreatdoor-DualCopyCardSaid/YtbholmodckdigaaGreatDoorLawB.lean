/- What the functions of the program compute, for every input. -/
import Derived.Test.YtbholmodckdigaaGreatDoorLawA
import Derived.Lib.ItoaNum
import Derived.Lib.ParseIntB
import Derived.Lib.SlTrimSet
import Derived.Lib.Repeat
import Derived.Test.YtbholmodckdigaaGreatDoorDamB
namespace Go.Dam.C
open Go Go.Dam
variable{X:ar}{pm:Perm}{H aa:ad}
section
variable[bq]
theorem zv(c:c4 X)(d:bR pm H){v w:Value}{n m k:Nat}(b:bV H v n)(e:bV H w m)(f:n<4294967296^k)(g:m<4294967296^k)(a:k<268435456):Call X pm F.kQ [v,w] H λr aa=>bh pm H aa/\bV aa r (n+m):=by
 obtain⟨_,h,i,a⟩:=b.out;obtain⟨_,j,k,b⟩:=e.out;have e:=fv i a f;have e:=fv k b g;refine(LS c d h j (by omega) (by omega)).mono ?_;rintro r aa ⟨c,_,d,_,e⟩;exact⟨c,by rw[<-a,<-b,<-e];exact d.nat⟩
theorem pn(c:c4 X)(d:bR pm H){v w:Value}{n m k:Nat}(b:bV H v n)(e:bV H w m)(f:n<4294967296^k)(g:m<4294967296^k)(a:k<268435456):Call X pm F.hM [v,w] H λr aa=>bh pm H aa/\bV aa r (n*m):=by
 obtain⟨_,h,i,a⟩:=b.out;obtain⟨_,j,k,b⟩:=e.out;have e:=fv i a f;have e:=fv k b g;refine(MB c d h j (by omega) (by omega)).mono ?_;rintro r aa ⟨c,_,d,_,e⟩;exact⟨c,by rw[<-a,<-b,<-e];exact d.nat⟩
theorem zU(c:c4 X){v w:Value}{n m k:Nat}(d:bV H v n)(e:bV H w m)(f:n<4294967296^k)(g:m<4294967296^k)(i:k<268435456):Call X pm F.iZ [v,w] H λr aa=>aa=H/\r=.int .i64 (e1 n m):=by
 obtain⟨_,h,i,a⟩:=d.out;obtain⟨_,j,d,b⟩:=e.out;have e:=fv i a f;have e:=fv d b g;subst a b;exact vP c h j (by omega) (by omega)
theorem IN(d:c4 X)(e:bR pm H){v w:Value}{n m k:Nat}(f:bV H v n)(g:bV H w m)(h:n<4294967296^k)(i:m<4294967296^k)(o:k<268435456):
 Call X pm F.kS [v,w] H λr aa=>bh pm H aa/\(n<m/\r=.tuple #[.pointer none,.bool false]∨m<=n/\∃p,r=.tuple #[p,.bool true]/\bV aa p (n-m)):=by
 obtain⟨_,j,k,a⟩:=f.out;obtain⟨_,l,b,c⟩:=g.out;have f:=fv k a h;have f:=fv b c i;subst a c;refine(FV d e j l (by omega) (by omega) b).mono ?_;rintro r aa ⟨a,h | ⟨h,p,_,b,c,_,d⟩⟩
 ·exact⟨a,.inl h⟩
 ·exact⟨a,.inr ⟨h,p,b,by rw[<-d];exact c.nat⟩⟩
theorem Aw(e:c4 X)(f:bR pm H){v w:Value}{n m k:Nat}(g:bV H v n)(h:bV H w m)(i:n<4294967296^k)(j:m<4294967296^k)(p:k<268435456)(l:m≠0):
 Call X pm F.j4 [v,w] H λr aa=>bh pm H aa/\∃q s,r=.tuple #[q,s,.bool true]/\bV aa q (n/m)/\bV aa s (n%m):=by
 obtain⟨_,k,a,b⟩:=g.out;obtain⟨_,o,c,d⟩:=h.out;have g:=fv a b i;have g:=fv c d j;subst b d;refine(FG e f k o a c (by omega) (by omega)).mono ?_;rintro r aa ⟨a,⟨h,_⟩ | ⟨_,q,s,b,c,d⟩⟩
 ·exact absurd h l
 ·exact⟨a,q,s,b,c,d⟩
theorem uK(a:c4 X)(b:bR pm H){x:Nat}(c:x<18446744073709551616):Call X pm F.ft [.int .u64 (x:Int)] H λr aa=>bh pm H aa/\bV aa r x:=by
 refine(wb a b c).mono ?_;rintro r aa ⟨a,b⟩;have:=b.nat;rw[<-j',xD]at this;exact⟨a,this⟩
theorem Jz(a:c4 X)(b:bR pm H):Call X pm F.ft [.int .u64 0] H λr aa=>bh pm H aa/\bV aa r 0:=uK a b (x:=0) (by omega)
theorem se(a:c4 X)(b:bR pm H):Call X pm F.ft [.int .u64 1] H λr aa=>bh pm H aa/\bV aa r 1:=uK a b (x:=1) (by omega)
end
theorem Np(x:Nat):((x:Int)==0)=decide (x=0):=by
 cases x with
 | zero=>rfl
 | succ x=>simp;omega
section
variable[bq]
theorem pW(a:c4 X){v:Value}{n k:Nat}(e:bV H v n)(f:n<4294967296^k)(h:k<268435456):Call X pm F.jd [v] H λr aa=>aa=H/\r=.bool (decide (n=0)):=by
 obtain⟨b,g,c,d⟩:=e.out;have e:=fv c d f;subst d;refine Call.has a.jd rfl ?_;simp;refine aq.of (by simp) (by simp) (LU a g c (by omega)) ?_;rintro _ H ⟨rfl,rfl⟩;have:ai (ay b)=0↔ay b=0:=by
  unfold ai;split
  ·simp[*]
  ·simp[*]
 simp;rw[Np];exact decide_eq_decide.2 this
def fs(neg:Bool)(n d:Nat):Rat:=mkRat (if neg then -(n:Int) else(n:Int)) d
structure eY(H:ad)(v:Value)(q:Rat):Prop where
 ex:(v=.pointer none/\q=0)∨∃b x Kd J7,v=.pointer (some ⟨b,0,none⟩)/\H.get b=some x/\zk x [.bool (decide (q<0)),Kd,J7]/\bV H Kd q.num.natAbs/\bV H J7 q.den
theorem eY.u{v:Value}{q:Rat}(h:eY H v q)(a:bR pm H)(b:bh pm H aa):eY aa v q:=by
 refine⟨h.ex.imp id ?_⟩;rintro⟨c,x,d,e,f,g,i,j,k⟩;exact⟨c,x,d,e,f,b.some a g,i,j.u a b,k.u a b⟩
def fA(H:ad)(v:Value)(q:Rat):Prop:=eY H v q/\∃b a t,v=.pointer (some ⟨b,0,none⟩)/\H.get b=some (.cells a (.t t))
theorem fA.u{v:Value}{q:Rat}(h:fA H v q)(a:bR pm H)(b:bh pm H aa):fA aa v q:=
 ⟨h.1.u a b,let ⟨c,d,t,e,f⟩:=h.2;⟨c,d,t,e,b.some a f⟩⟩
end
theorem BM{neg:Bool}{n d:Nat}(a:d≠0):(fs neg n d).den=d/Nat.gcd n d:=by
 unfold fs;rw[Rat.den_mkRat,aC a,mX];congr 2;cases neg<;>simp
theorem BN{neg:Bool}{n d:Nat}(a:d≠0):(fs neg n d).num.natAbs=n/Nat.gcd n d:=by
 unfold fs;rw[Rat.num_mkRat,aC a,mX]
 cases neg with
 | false=>simp;rfl
 | true=>
   simp only[if_true,Int.natAbs_neg,Int.natAbs_natCast];rw[Int.neg_ediv_of_dvd (by exact_mod_cast Nat.gcd_dvd_left n d),Int.natAbs_neg];rfl
theorem uE(q:Rat):q<0↔q.num<0:=by
 rw[<-Rat.not_le,<-Rat.num_nonneg];omega
theorem QE{neg:Bool}{n d:Nat}(a:d≠0):decide (fs neg n d<0)=(neg&&!decide (n=0)):=by
 have b:0<Nat.gcd n d:=Nat.gcd_pos_of_pos_right _ (m' a);have h:(fs neg n d<0)↔(neg=true/\n≠0):=by
  rw[uE];unfold fs;rw[Rat.num_mkRat,aC a,mX]
  cases neg with
  | false=>
    simp only[kj,if_false,Int.natAbs_natCast,false_and,iff_false];have:(0:Int)<=(n:Int)/(Nat.gcd n d:Nat):=Int.ediv_nonneg (by omega) (by omega);omega
  | true=>
    simp only[if_true,Int.natAbs_neg,Int.natAbs_natCast,true_and];have a:((Nat.gcd n d:Nat):Int)∣(n:Int):=by exact_mod_cast Nat.gcd_dvd_left n d
    rw[Int.neg_ediv_of_dvd a];have e:((n:Int)/(Nat.gcd n d:Nat))=((n/Nat.gcd n d:Nat):Int):=rfl;rw[e];constructor
    ·rintro h rfl;simp at h
    ·intro a;have:0<n/Nat.gcd n d:=Nat.div_pos (Nat.le_of_dvd (m' a) (Nat.gcd_dvd_left n d)) b;omega
 rw[Bool.eq_iff_iff];simp only[df,b3,iq,decide_eq_false_iff_not];exact h
section
variable[bq]
theorem bV.ptr{v:Value}{n:Nat}(h:bV H v n):(v=.pointer none/\n=0)∨∃a,v=.pointer (some a):=by
 obtain⟨_,a,_,c⟩:=h.out
 rcases a with⟨h,rfl⟩ | ⟨b,_,_,h,_⟩
 ·exact .inl ⟨h,c.symm⟩
 ·exact .inr ⟨_,h⟩
def qA(pm:Perm)(H:ad)(neg:Bool)(n d:Nat):b5:=λx l aa=>(x=dS.normal∨x=dS.ret)/\∃a,hU l aa [.slot 6,.slot 7]=some a/\(bh pm H aa/\(d=0/\f' a=.tuple #[.pointer none,.bool false]∨d≠0/\∃p,f' a=.tuple #[p,.bool true]/\fA aa p (fs neg n d)))
theorem F0(g:c4 X)(b:bR pm H){neg:Bool}{v w:Value}{n d k:Nat}(A:bV H v n)(s:bV H w d)(B:n<4294967296^k)(t:d<4294967296^k)(i:k<268435456):
 Call X pm F.mV [.bool neg,v,w] H λr aa=>bh pm H aa/\(d=0/\r=.tuple #[.pointer none,.bool false]∨d≠0/\∃p,r=.tuple #[p,.bool true]/\fA aa p (fs neg n d)):=by
 refine Call.has g.mV rfl ?_;show wp X pm _ _ _ _ (qA pm H neg n d);simp[-lS];refine aq.of (by simp) (by simp) (pW g s t i) ?_;rintro _ H ⟨rfl,rfl⟩;by_cases e:d=0
 ·simp[e,qA];exact bh.refl b
 have J:0<Nat.gcd n d:=Nat.gcd_pos_of_pos_right _ (m' e);obtain⟨G,o⟩:∃G,G=Nat.gcd n d:=⟨_,rfl⟩
 have E:∀(m:bb) (h:ad) (C j:Value),bh pm H h->bV h C (n/G)->bV h j (d/G)->aK 0 m=some (.bool neg)->aK 1 m=some C->aK 2 m=some j->
  wp X pm (.code lS) m h [] (qA pm H neg n d):=by
  intro m h C j f u p v w x;have K:n/G=0↔n=0:=by
   rw[o];constructor
   ·intro _
    rcases uZ n with q | q
    ·exact q
    ·have:0<n/Nat.gcd n d:=Nat.div_pos (Nat.le_of_dvd q (Nat.gcd_dvd_left n d)) J;omega
   ·rintro rfl;simp
  have y:∀(a:ad) (m:Value),bh pm h a->bV a m (n/G)->bh pm H (a.new (.cells [.bool (neg&&!decide (n=0)),m,j] (.t T.Cw)))/\fA (a.new (.cells [.bool (neg&&!decide (n=0)),m,j] (.t T.Cw))) (ptr a.next) (fs neg n d):=by
   intro a m c k;have d:bh pm a (a.new (.cells [.bool (neg&&!decide (n=0)),m,j] (.t T.Cw))):=(bh.refl c.ok).new _;refine⟨(f.trans c).trans d,⟨.inr ⟨a.next,_,m,j,rfl,b4,?_,?_,?_⟩⟩,_,_,_,rfl,b4⟩
   ·rw[QE e];exact⟨rfl,rfl⟩
   ·rw[BN e,<-o];exact k.u c.ok d
   ·rw[BM e,<-o];exact(p.u f.ok c).u c.ok d
  have F:n/G<4294967296^k:=cV (kk _ _) B;have I:decide (n/G=0)=decide (n=0):=decide_eq_decide.2 K
  rcases u.ptr with⟨rfl,q⟩ | ⟨zt,rfl⟩
  ·simp[w];refine aq.of (by simp) (by simp) (Jz g f.ok) ?_;rintro r a ⟨c,d⟩;rw[<-q]at d
   cases neg with
   | true=>
     simp[v];refine aq.of (by simp) (by simp) (pW g d F i) ?_;rintro _ a ⟨rfl,rfl⟩;have:=y a r c d;rw[I]
     rcases d.ptr with⟨rfl,_⟩ | ⟨a2,rfl⟩<;>rcases p.ptr with⟨rfl,_⟩ | ⟨a3,rfl⟩<;>simp[qA,x,e,b.make,b.pick]<;>simpa using this
   | false=>
     simp[v];refine aq.not (by simp) ?_;have:=y a r c d
     rcases d.ptr with⟨rfl,_⟩ | ⟨a2,rfl⟩<;>rcases p.ptr with⟨rfl,_⟩ | ⟨a3,rfl⟩<;>simp[qA,x,e,b.make,b.pick]<;>simpa using this
  ·simp[w]
   cases neg with
   | true=>
     simp[v];refine aq.of (by simp) (by simp) (pW g u F i) ?_;rintro _ h ⟨rfl,rfl⟩;have:=y h _ (bh.refl f.ok) u;rw[I]
     rcases p.ptr with⟨rfl,_⟩ | ⟨a3,rfl⟩<;>simp[qA,w,x,e,b.make,b.pick]<;>simpa using this
   | false=>
     simp[v];refine aq.not (by simp) ?_;have:=y h _ (bh.refl f.ok) u
     rcases p.ptr with⟨rfl,_⟩ | ⟨a3,rfl⟩<;>simp[qA,w,x,e,b.make,b.pick]<;>simpa using this
 simp[-lS,e];refine aq.of (by simp) (by simp) (Mn g b A s B t i) ?_;rintro _ h ⟨f,z⟩;rw[<-o]at z;have D:G<4294967296^k:=by
  rw[o];exact cV (Nat.gcd_le_right _ (m' e)) t
 simp[-lS];refine aq.of (by simp) (by simp) (se g f.ok) ?_;rintro _ a ⟨c,e⟩;have h:1<4294967296^k:=by omega
 simp[-lS];refine aq.of (by simp) (by simp) (zU g (z.u f.ok c) e D h i) ?_;rintro _ a ⟨rfl,rfl⟩;have l:=f.trans c;by_cases e:G=1
 ·have d:e1 G 1=0:=by simp[e1,e]
  simp[-lS,d];refine E _ a v w l (by rw[e,Nat.div_one];exact A.u b l) (by rw[e,Nat.div_one];exact s.u b l) ?_ ?_ ?_<;>simp
 ·have a:e1 G 1=1:=by unfold e1;rw[aC (by omega),aC e]
  simp[-lS,a];refine aq.of (by simp) (by simp) (Aw g l.ok (A.u b l) (z.u f.ok c) B D i (by omega)) ?_;rintro _ _ ⟨d,p,_,rfl,q,_⟩;simp[-lS];have k:=l.trans d;refine aq.of (by simp) (by simp) (Aw g d.ok (s.u b k) ((z.u f.ok c).u l.ok d) t D i (by omega)) ?_;rintro _ r ⟨n,u,_,rfl,a,_⟩;simp[-lS];refine E _ r p u (k.trans n) (q.u d.ok n) a ?_ ?_ ?_<;>simp
def hA(neg:Bool)(n:Nat):Int:=if neg then -(n:Int) else(n:Int)
end
theorem r6(neg:Bool)(n d:Nat):fs neg n d=mkRat (hA neg n) d:=rfl
theorem kV(q:Rat):q.num=hA (decide (q<0)) q.num.natAbs:=by
 unfold hA;by_cases h:q<0
 ·have:=(uE q).1 h;simp[h];omega
 ·have:¬q.num<0:=λa=>h ((uE q).2 a);simp[h];omega
theorem I8(q:Rat):fs (decide (q<0)) q.num.natAbs q.den=q:=by
 rw[r6,<-kV];simp_all
section
variable[bq]
def aS(q:Rat)(k:Nat):Prop:=q.num.natAbs<4294967296^k/\q.den<4294967296^k
end
theorem jz{n m k:Nat}(a:n<4294967296^k)(b:m<4294967296^k):n*m<4294967296^(2*k):=by
 rw[show 2*k=k+k by omega,fH];exact sI a b
theorem kg{n j k:Nat}(h:n<4294967296^j)(a:j<=k):n<4294967296^k:=eC h (fX (by decide) a)
theorem xV{n m k:Nat}(a:n<4294967296^k)(a:m<4294967296^k):n+m<4294967296^(k+1):=by
 grind
section
variable[bq]
theorem lk(e:c4 X)(a:bR pm H){v:Value}{q:Rat}(h:eY H v q):
 Call X pm F.hh [v] H λr aa=>bh pm H aa/\∃c d,r=.tuple #[.bool (decide (q<0)),c,d]/\bV aa c q.num.natAbs/\bV aa d q.den:=by
 refine Call.has e.hh rfl ?_
 rcases h.ex with⟨rfl,rfl⟩ | ⟨b,x,c,d,rfl,bX,cv,cF,dw⟩
 ·simp;refine aq.of (by simp) (by simp) (Jz e a) ?_;rintro g _ ⟨b,h⟩;simp;refine aq.of (by simp) (by simp) (se e b.ok) ?_;rintro e _ ⟨f,i⟩;simp;exact⟨b.trans f,g,e,⟨rfl,rfl⟩,h.u b.ok f,i⟩
 ·have g:∃f,d=.pointer (some f):=by
   rcases dw.ptr with⟨_,h⟩ | h
   ·exact absurd h q.den_nz
   ·exact h
  obtain⟨f,rfl⟩:=g;simp[bX,cv];refine cy.tP a rfl rfl rfl ?_;simp[bX,cv];have b:=(bh.refl a).up 15;exact⟨b,c,_,⟨rfl,rfl⟩,cF.u a b,dw.u a b⟩
theorem sZ(a:c4 X)(b:bR pm H){neg:Bool}{v w:Value}{n d k:Nat}(c:bV H v n)(e:bV H w d)(f:n<4294967296^k)(g:d<4294967296^k)(h:k<268435456)(i:d≠0):
 Call X pm F.jB [.bool neg,v,w] H λr aa=>bh pm H aa/\fA aa r (fs neg n d):=by
 refine Call.has a.jB rfl ?_;simp;refine aq.of (by simp) (by simp) (F0 a b (neg:=neg) c e f g h) ?_;simp_all
theorem F'(a:c4 X)(b:bR pm H){v:Value}{q:Rat}{k:Nat}(h:eY H v q)(c:aS q k)(d:k<268435456):
 Call X pm F.dY [v] H λr aa=>bh pm H aa/\r=.int .i64 (if q<0 then -1 else if q=0 then 0 else 1):=by
 refine Call.has a.dY rfl ?_;simp;refine aq.of (by simp) (by simp) (lk a b h) ?_;rintro _ _ ⟨_,_,_,rfl,e,_⟩;by_cases f:q<0
 ·simp_all
 ·simp[f];refine aq.of (by simp) (by simp) (pW a e c.1 d) ?_;simp_all
end
theorem I7(q:Rat):(-q).num.natAbs=q.num.natAbs/\(-q).den=q.den/\decide (-q<0)=(!decide (q<0)&&!decide (q.num.natAbs=0)):=by
 refine⟨by simp_all,Rat.neg_den q,?_⟩;rw[Bool.eq_iff_iff];simp only[df,b3,iq,decide_eq_false_iff_not];rw[uE,uE,Rat.neg_num];omega
section
variable[bq]
theorem FZ(j:c4 X)(b:bR pm H){v:Value}{q:Rat}{k:Nat}(h:eY H v q)(m:aS q k)(n:k<268435456):
 Call X pm F.ij [v] H λr aa=>bh pm H aa/\fA aa r (-q):=by
 refine Call.has j.ij rfl ?_;simp;refine aq.of (by simp) (by simp) (lk j b h) ?_;rintro _ a ⟨c,d,e,rfl,f,k⟩;obtain⟨o,p,l⟩:=I7 q;have g:bh pm H (a.new (.cells [.bool (decide (-q<0)),d,e] (.t T.Cv)))/\fA (a.new (.cells [.bool (decide (-q<0)),d,e] (.t T.Cv))) (ptr a.next) (-q):=by
  have h:bh pm a (a.new (.cells [.bool (decide (-q<0)),d,e] (.t T.Cv))):=(bh.refl c.ok).new _;exact⟨c.trans h,⟨.inr ⟨a.next,_,d,e,rfl,b4,⟨rfl,rfl⟩,by rw[o];exact f.u c.ok h,by rw[p];exact k.u c.ok h⟩⟩,_,_,_,rfl,b4⟩
 by_cases i:q<0
 ·simp[i];refine aq.not (by simp) ?_;rw[l]at g
  rcases f.ptr with⟨rfl,_⟩ | ⟨a2,rfl⟩<;>rcases k.ptr with⟨rfl,_⟩ | ⟨a3,rfl⟩<;>simp[b.make,b.pick]<;>simpa [i]using g
 ·simp[i];refine aq.of (by simp) (by simp) (pW j f m.1 n) ?_;rintro _ a ⟨rfl,rfl⟩;rw[l]at g
  rcases f.ptr with⟨rfl,_⟩ | ⟨a2,rfl⟩<;>rcases k.ptr with⟨rfl,_⟩ | ⟨a3,rfl⟩<;>simp[b.make,b.pick]<;>simpa [i]using g
theorem MA(a:c4 X)(d:bR pm H){v w:Value}{p q:Rat}{k:Nat}(g:eY H v p)(h:eY H w q)(e:aS p k)(f:aS q k)(l:k<67108864):
 Call X pm F.fV [v,w] H λr aa=>bh pm H aa/\fA aa r (p*q):=by
 refine Call.has a.fV rfl ?_;simp;refine aq.of (by simp) (by simp) (lk a d g) ?_;rintro _ _ ⟨c,_,_,rfl,i,j⟩;simp;refine aq.of (by simp) (by simp) (lk a c.ok (h.u d c)) ?_;rintro _ _ ⟨b,_,_,rfl,d,g⟩;simp;refine aq.of (by simp) (by simp) (pn a b.ok (i.u c.ok b) d e.1 f.1 (by omega)) ?_;rintro _ _ ⟨d,h⟩;simp;refine aq.of (by simp) (by simp) (pn a d.ok ((j.u c.ok b).u b.ok d) (g.u b.ok d) e.2 f.2 (by omega)) ?_;rintro _ _ ⟨g,i⟩;simp;refine aq.of (by simp) (by simp) (sZ a g.ok (neg:=!(decide (p<0)==decide (q<0))) (h.u d.ok g) i (jz e.1 f.1) (jz e.2 f.2) (by omega) (pA p.den_nz q.den_nz)) ?_;rintro _ _ ⟨a,_⟩;simp;refine⟨c.trans (b.trans (d.trans (g.trans a))),?_⟩;have:p*q=fs (!(decide (p<0)==decide (q<0))) (p.num.natAbs*q.num.natAbs) (p.den*q.den):=by
  rw[Rat.mul_def',r6];congr 1;rw[kV p,kV q];unfold hA;cases decide (p<0)<;>cases decide (q<0)<;>simp[Int.mul_neg,Int.neg_mul]
 grind
end
theorem H9{q:Rat}(b:q≠0)(p:Rat):p/q=fs (!(decide (p<0)==decide (q<0))) (p.num.natAbs*q.den) (p.den*q.num.natAbs):=by
 have c:q.num.natAbs≠0:=by
  intro _;exact b (Rat.num_eq_zero.1 (by omega))
 have b:fs (!(decide (p<0)==decide (q<0))) (p.num.natAbs*q.den) (p.den*q.num.natAbs)*q=p:=by
  have d:q=mkRat (hA (decide (q<0)) q.num.natAbs) q.den:=by rw[<-kV];exact(Rat.mkRat_self q).symm
  have e:p=mkRat (hA (decide (p<0)) p.num.natAbs) p.den:=by rw[<-kV];exact(Rat.mkRat_self p).symm
  generalize b:p.num.natAbs=P at*
  generalize b:q.num.natAbs=Q at*
  have a:=p.den_nz;have f:=q.den_nz;generalize b:p.den=b at*
  generalize b:q.den=b at*
  generalize b:decide (p<0)=s at*
  generalize b:decide (q<0)=t at*
  rw[d,e,r6,Rat.mkRat_mul_mkRat,Rat.mkRat_eq_iff (pA (pA a c) f) a];unfold hA;simp only[u6];cases s<;>cases t<;>simp<;>grind
 grind
section
variable[bq]
theorem Md(a:c4 X)(d:bR pm H){v w:Value}{p q:Rat}{k:Nat}(g:eY H v p)(l:eY H w q)(e:aS p k)(f:aS q k)(o:k<67108864):
 Call X pm F.jc [v,w] H λr aa=>bh pm H aa/\(q=0/\r=.tuple #[.pointer none,.bool false]∨q≠0/\∃x,r=.tuple #[x,.bool true]/\fA aa x (p/q)):=by
 refine Call.has a.jc rfl ?_;simp;refine aq.of (by simp) (by simp) (lk a d g) ?_;rintro _ _ ⟨c,_,_,rfl,k,m⟩;simp;refine aq.of (by simp) (by simp) (lk a c.ok (l.u d c)) ?_;rintro _ _ ⟨b,_,_,rfl,g,d⟩;simp;refine aq.of (by simp) (by simp) (pn a b.ok (k.u c.ok b) d e.1 f.2 (by omega)) ?_;rintro _ _ ⟨d,k⟩;simp;refine aq.of (by simp) (by simp) (pn a d.ok ((m.u c.ok b).u b.ok d) (g.u b.ok d) e.2 f.1 (by omega)) ?_;rintro _ _ ⟨g,l⟩;simp;refine aq.of (by simp) (by simp) (F0 a g.ok (neg:=!(decide (p<0)==decide (q<0))) (k.u d.ok g) l (jz e.1 f.2) (jz e.2 f.1) (by omega)) ?_;have i:=c.trans (b.trans (d.trans g));rintro _ _ ⟨j,⟨h,rfl⟩ | ⟨h,x,rfl,n⟩⟩
 ·have:q=0:=by
   rcases Nat.mul_eq_zero.1 h with h | h
   ·exact absurd h p.den_nz
   ·simp_all
  simp;exact⟨i.trans j,this⟩
 ·have:q≠0:=by
   rintro rfl;simp at h
  simp;exact⟨i.trans j,this,by rw[H9 this];exact n⟩
def MI(H:ad)(r:Value)(t:Int)(b:Nat):Prop:=∃s x j,r=.tuple #[.bool s,x]/\bV H x j/\hA s j=t/\j<=b
theorem Lb(b:c4 X)(c:bR pm H){p q:Bool}{v w:Value}{n m k:Nat}(d:bV H v n)(e:bV H w m)(f:n<4294967296^k)(g:m<4294967296^k)(h:k<268435456):
 Call X pm F.mW [.bool p,v,.bool q,w] H λr aa=>bh pm H aa/\MI aa r (hA p n+hA q m) (n+m):=by
 refine Call.has b.mW rfl ?_;by_cases j:p=q
 ·subst j;simp;refine aq.of (by simp) (by simp) (zv b c d e f g h) ?_;rintro r _ ⟨a,i⟩;simp;exact⟨a,p,r,n+m,rfl,i,by unfold hA;grind,bg _⟩
 ·have k:(p==q)=false:=by simpa using j
  simp[k];refine aq.of (by simp) (by simp) (IN b c d e f g h) ?_;rintro _ _ ⟨a,⟨_,rfl⟩ | ⟨l,x,rfl,i⟩⟩
  ·simp;refine aq.of (by simp) (by simp) (IN b a.ok (e.u c a) (d.u c a) g f h) ?_;rintro _ _ ⟨o,⟨_,rfl⟩ | ⟨l,x,rfl,i⟩⟩
   ·omega
   ·simp;refine⟨a.trans o,q,x,m-n,rfl,i,?_,by omega⟩;unfold hA;grind
  ·simp;refine⟨a,p,x,n-m,rfl,i,?_,by omega⟩;unfold hA;grind
theorem Fw(a:c4 X)(o:bR pm H){v w:Value}{p q:Rat}{k:Nat}(u:eY H v p)(x:eY H w q)(b:aS p k)(c:aS q k)(A:k<67108864):
 Call X pm F.gq [v,w] H λr aa=>bh pm H aa/\fA aa r (p+q):=by
 refine Call.has a.gq rfl ?_;simp;refine aq.of (by simp) (by simp) (lk a o u) ?_;rintro _ _ ⟨e,_,_,rfl,y,z⟩;simp;refine aq.of (by simp) (by simp) (lk a e.ok (x.u o e)) ?_;rintro _ s ⟨d,_,_,rfl,i,g⟩;have j:=y.u e.ok d;have h:=z.u e.ok d;simp;refine aq.of (by simp) (by simp) (pW a j b.1 (by omega)) ?_;rintro _ s ⟨rfl,rfl⟩;have k:=e.trans d;by_cases e:p.num=0
 ·have m:p=0:=Rat.num_eq_zero.1 e;simp[e];refine aq.of (by simp) (by simp) (sZ a d.ok (neg:=decide (q<0)) i g c.1 c.2 (by omega) q.den_nz) ?_;rintro r _ ⟨n,f⟩;rw[I8]at f;simp;rw[m,Rat.zero_add];exact⟨k.trans n,f⟩
 simp[e];refine aq.of (by simp) (by simp) (zU a h g b.2 c.2 (by omega)) ?_;rintro _ s ⟨rfl,rfl⟩;have e:p=mkRat (hA (decide (p<0)) p.num.natAbs) p.den:=by rw[<-kV];exact(Rat.mkRat_self p).symm
 have e:q=mkRat (hA (decide (q<0)) q.num.natAbs) q.den:=by rw[<-kV];exact(Rat.mkRat_self q).symm
 by_cases l:p.den=q.den
 ·have e:e1 p.den q.den=0:=by simp[e1,l]
  simp[e];refine aq.of (by simp) (by simp) (Lb a d.ok (p:=decide (p<0)) (q:=decide (q<0)) j i b.1 c.1 (by omega)) ?_;rintro _ _ ⟨f,m,_,n,rfl,e,o,s⟩;simp;refine aq.of (by simp) (by simp) (sZ a f.ok (neg:=m) e (h.u d.ok f) (cV s (xV b.1 c.1)) (kg b.2 (by omega)) (by omega) p.den_nz) ?_;rintro r _ ⟨e,_⟩;simp;refine⟨k.trans (f.trans e),?_⟩;have:p+q=fs m n p.den:=by
   rw[r6,o,l,Rat.add_def',<-kV,<-kV,l,<-Int.add_mul];exact Rat.mkRat_mul_right q.den_nz
  grind
 ·have v:e1 p.den q.den≠0:=by unfold e1;split<;>simp
  simp[v];refine aq.of (by simp) (by simp) (pn a d.ok j g b.1 c.2 (by omega)) ?_;rintro _ _ ⟨f,e⟩;simp;refine aq.of (by simp) (by simp) (pn a f.ok (i.u d.ok f) (h.u d.ok f) c.1 b.2 (by omega)) ?_;rintro _ _ ⟨m,i⟩;simp;refine aq.of (by simp) (by simp) (Lb a m.ok (p:=decide (p<0)) (q:=decide (q<0)) (e.u f.ok m) i (jz b.1 c.2) (jz c.1 b.2) (by omega)) ?_;rintro _ _ ⟨n,t,_,w,rfl,i,j,l⟩;have e:=f.trans (m.trans n);simp;refine aq.of (by simp) (by simp) (pn a n.ok (h.u d.ok e) (g.u d.ok e) b.2 c.2 (by omega)) ?_;rintro _ _ ⟨d,f⟩;simp;refine aq.of (by simp) (by simp) (sZ a d.ok (neg:=t) (i.u n.ok d) f (cV l (xV (jz b.1 c.2) (jz c.1 b.2))) (kg (jz b.2 c.2) (by omega)) (by omega) (pA p.den_nz q.den_nz)) ?_;rintro r _ ⟨a,_⟩;simp;refine⟨k.trans (e.trans (d.trans a)),?_⟩;have:p+q=fs t w (p.den*q.den):=by
   rw[r6,j,Rat.add_def'];congr 1;rw[kV p,kV q];unfold hA;cases decide (p<0)<;>cases decide (q<0)<;>simp[Int.neg_mul]
  grind
end
theorem oF{q:Rat}{k:Nat}(h:aS q k):aS (-q) k:=by
 obtain⟨a,b,_⟩:=I7 q;exact⟨by rw[a];exact h.1,by rw[b];exact h.2⟩
section
variable[bq]
theorem Gb(a:c4 X)(c:bR pm H){v w:Value}{p q:Rat}{k:Nat}(e:eY H v p)(b:eY H w q)(f:aS p k)(d:aS q k)(g:k<67108864):
 Call X pm F.ik [v,w] H λr aa=>bh pm H aa/\fA aa r (p-q):=by
 refine Call.has a.ik rfl ?_;simp;refine aq.of (by simp) (by simp) (FZ a c b d (by omega)) ?_;rintro _ _ ⟨b,h⟩;simp;refine aq.of (by simp) (by simp) (Fw a b.ok (e.u c b) h.1 f (oF d) g) ?_;rintro _ _ ⟨a,_⟩;simp;exact⟨b.trans a,by grind⟩
theorem LY(a:c4 X)(c:bR pm H){v w:Value}{p q:Rat}{k:Nat}(d:eY H v p)(e:eY H w q)(f:aS p k)(g:aS q k)(h:aS (p-q) (2*k+1))(i:k<67108864):
 Call X pm F.gJ [v,w] H λr aa=>bh pm H aa/\r=.int .i64 (if p<q then -1 else if p=q then 0 else 1):=by
 refine Call.has a.gJ rfl ?_;simp;refine aq.of (by simp) (by simp) (Gb a c d e f g i) ?_;rintro _ _ ⟨b,c⟩;simp;refine aq.of (by simp) (by simp) (F' a b.ok c.1 h (by omega)) ?_;rintro _ _ ⟨j,rfl⟩;have a:(p-q<0)↔(p<q):=by constructor<;>intro h<;>grind
 have c:(p-q=0)↔(p=q):=by constructor<;>intro h<;>grind
 simp[a,c];exact b.trans j
end
end Go.Dam.C
namespace Go.Dam
open Go
abbrev aA(l:List UInt8):Value:=.string ⟨l.toArray⟩
@[simp] theorem I6(l:List UInt8):(ByteArray.mk l.toArray).size=l.length:=rfl
@[simp] theorem mk_data(l:List UInt8):(ByteArray.mk l.toArray).data=l.toArray:=rfl
theorem Gm{a b:ByteArray}(h:a.data.toList=b.data.toList):a=b:=by
 obtain⟨⟨a⟩⟩:=a;obtain⟨⟨b⟩⟩:=b;exact congrArg (λl:List UInt8=>ByteArray.mk ⟨l⟩) h
theorem IV(a:ByteArray):∀(n i:Nat) (r:List UInt8),a.size-i=n->ByteArray.toList.loop a i r=r.reverse++a.data.toList.drop i:=by
 intro n
 induction n with
 | zero=>
   intro i r _;rw[ByteArray.toList.loop];have b:¬i<a.size:=by omega
   rw[aC b,List.drop_eq_nil_of_le (by have:a.data.toList.length=a.size:=jE;omega)];simp
 | succ n ih=>
   intro i r _;rw[ByteArray.toList.loop];have b:i<a.size:=by omega
   have c:i<a.data.toList.length:=by rw[jE];exact b
   rw[aT b,ih (i+1) _ (by omega),List.drop_eq_getElem_cons c];have b:a.get! i=a.data.toList[i]:=by
    show a.data[i]! = _;rw[getElem!_pos a.data i (by simpa using c)];simp
   rw[b];simp
@[simp] theorem UO(l:List UInt8):(ByteArray.mk l.toArray).toList=l:=by
  unfold ByteArray.toList;rw[IV _ _ 0 [] rfl];simp
theorem iP(s:ByteArray):s.toList=s.data.toList:=by
 unfold ByteArray.toList;rw[IV _ _ 0 [] rfl];simp
@[simp] theorem UN(l:List UInt8)(i j:Nat):(ByteArray.mk l.toArray).extract i j=⟨((l.drop i).take (j-i)).toArray⟩:=by
  apply Gm;simp[ByteArray.data_extract,List.extract_eq_take_drop]
@[simp] theorem UM(a b:List UInt8):(ByteArray.mk a.toArray++ByteArray.mk b.toArray)=⟨(a++b).toArray⟩:=by
  apply Gm;simp[ByteArray.data_append]
end Go.Dam
namespace Go.Dam.C
open Go Go.Dam
theorem Kq(c:Nat):Lib.repeatL [48] c=List.replicate c 48:=by
 induction c with
 | zero=>rfl
 | succ c ih=>rw[Lib.repeatL,ih];rfl
theorem uB{u k:Nat}(h:u<10^k)(a:1<=k):Lib.nDigits u<=k:=by
 induction k generalizing u with
 | zero=>omega
 | succ k ih=>
   by_cases a:u<10
   ·rw[Lib.nDigits_small a];omega
   ·rw[Lib.nDigits_big a];rw[dH]at h;have b:1<=k:=by
     cases k with
     | zero=>simp at h;omega
     | succ k=>omega
    have:=ih (u:=u/10) (by omega) b;omega
section
variable[bq]
def qH:Nat->Nat->List UInt8
 | 0,_=>[]
 | k+1,r=>qH k (r/10)++[UInt8.ofNat (48+r%10)]
end
theorem Ha{q:Nat}(a:0<q):∀{k r:Nat},r<10^k->Lib.decDigits (q*10^k+r)=Lib.decDigits q++qH k r
 | 0,r,h=>by
   have:r=0:=by simpa using h
   subst this;simp[qH]
 | k+1,r,h=>by
   rw[dH]at h;have b:1<=10^k:=sA _ _ (by decide);have c:1<=q*10^k:=pC a b;have e:q*10^(k+1)+r=10*(q*10^k)+r:=by rw[dH];grind
   rw[e,Lib.decDigits,dif_neg (by omega)];have b:(10*(q*10^k)+r)/10=q*10^k+r/10:=by omega
   have c:(10*(q*10^k)+r)%10=r%10:=by omega
   rw[b,c,Ha a (k:=k) (r:=r/10) (by omega),qH,sw]
theorem JY:∀{k r:Nat},1<=k->r<10^k->qH k r=List.replicate (k-Lib.nDigits r) 48++Lib.decDigits r
 | 0,r,_,_=>by omega
 | 1,r,_,h=>by
   have h:r<10:=by simpa using h
   rw[Lib.nDigits_small h,Lib.decDigits_one h];simp[qH,k0 h]
 | k+2,r,_,h=>by
   rw[qH,JY (k:=k+1) (r:=r/10) (by omega) (by rw[dH]at h;omega)];by_cases a:r<10
   ·have e:r/10=0:=by omega
    rw[e,Lib.nDigits_small a,Lib.nDigits_small (by omega),Lib.decDigits_one (by omega:0<10),Lib.decDigits_one a,k0 a];rw[show k+2-1=(k+1-1)+1 by omega,List.replicate_succ',sw,sw];rfl
   ·rw[Lib.nDigits_big a,sw,show k+2-(Lib.nDigits (r/10)+1)=k+1-Lib.nDigits (r/10) by omega];congr 1
    conv=>rhs;rw[Lib.decDigits,dif_neg a]
section
variable[bq]
def gT(n:Nat):List UInt8:=if n=0 then[] else Lib.decDigits n
end
theorem NT(m:Nat)(b:m≠0):gT (m/1000000000)++(if m/1000000000=0 then Lib.decDigits (m%1000000000) else Lib.repeatL [48] (9-(Lib.decDigits (m%1000000000)).length)++Lib.decDigits (m%1000000000))=gT m:=by
 have a:gT m=Lib.decDigits m:=by simp[gT,b]
 by_cases h:m/1000000000=0
 ·rw[a,h];have:m%1000000000=m:=by omega
  simp[gT,this]
 ·rw[a,aC h,Kq,Lib.decDigits_length,<-JY (k:=9) (by omega) (by show m%1000000000<1000000000;omega)];rw[gT,aC h,<-Ha (by omega) (by show m%1000000000<1000000000;omega)];congr 1;show m/1000000000*1000000000+m%1000000000=m;omega
theorem uc{n k:Nat}(h:n<4294967296^k)(a:1<=k):(Lib.decDigits n).length<=10*k:=by
 rw[Lib.decDigits_length];refine uB ?_ (by omega);rw[mY];exact eC h (x9 (by decide) k)
theorem wU(n:Nat):Lib.decDigits n≠[]:=by
 intro h;have:=Lib.decDigits_length n;rw[h]at this;have:=Lib.nDigits_pos n;simp at*
 omega
end Go.Dam.C
namespace Go.Dam.C
open Go Go.Dam
variable[bq]
def Ta:bk:=.cr (.nat 0)
def j0(H:ad):Bool:=match H.get 1 with
 | some (.cr (.nat 0))=>true
 | _=>false
def rT(_:Perm)(args:List Value)(H:ad):Option (Value×ad):=match args with
 | [.int .u64 (.ofNat u),.int .i64 b]=>bif fQ b 10&&(Nat.blt u 18446744073709551616&&j0 H) then some (aA (Lib.decDigits u),H) else none
 | _=>none
def rU(_:Perm)(args:List Value)(H:ad):Option (Value×ad):=match args with
 | [.string s,.int .i64 (.ofNat c)]=>bif Nat.ble c 1000&&Nat.ble s.size 1000 then some (aA (Lib.repeatL s.data.toList c),H) else none
 | _=>none
def uj(_:Perm)(args:List Value)(H:ad):Option (Value×ad):=match args with
 | [.string s,.string c]=>bif Nat.ble s.size 1000000&&(Nat.ble c.size 1000&&c.data.toList.all λb=>Nat.blt b.toNat 128) then some (aA (Lib.trimS s.data.toList c.data.toList),H) else none
 | _=>none
def ui(_:Perm)(args:List Value)(H:ad):Option (Value×ad):=match args with
 | [.string s,.int .i64 b,.int .i64 c]=>bif fQ b 10&&(fQ c 32&&Nat.ble s.size 1000000) then(match Lib.parseUintB 32 s.data.toList with
   | .ok u=>some (.tuple #[.int .u64 (u:Int),.nilIface],H)
   | _=>none) else none
 | _=>none
def qi(_:Perm)(args:List Value)(H:ad):Option (Value×ad):=match args with
 | [.string s,.int .u8 (.ofNat c)]=>bif Nat.blt c 256 then some (.int .i64 (iU c s.data.toList 0),H) else none
 | _=>none
structure fT(X:ar):Prop extends c4 X where
 idx:X.eS F.zD=some qi
 l9:Has X F.l9 C.l9
 l':Has X F.l' C.l'
 l5:Has X F.l5 C.l5
 l6:Has X F.l6 C.l6
 l7:Has X F.l7 C.l7
 oC:Has X F.oC C.oC
 nn:Has X F.nn C.nn
 gI:Has X F.gI C.gI
 fmt:X.eS F.Da=some rT
 rep:X.eS F.Dg=some rU
 trim:X.eS F.vq=some uj
 parse:X.eS F.Db=some ui
variable{X:ar}{pm:Perm}{H aa:ad}
def Tab(H:ad):Prop:=H.get 1=some Ta
theorem Tab.u(h:Tab H)(a:bR pm H)(b:bh pm H aa):Tab aa:=b.some a h
end Go.Dam.C
namespace Go.Dam.C
open Go Go.Dam
variable{X:ar}{pm:Perm}{H aa:ad}
theorem Ow(a:fT X)(b:Tab H){u:Nat}(c:u<18446744073709551616):Call X pm F.Da [.int .u64 (u:Int),.int .i64 10] H λr aa=>aa=H/\r=aA (Lib.decDigits u):=by
 refine Call.over a.fmt (v:=aA (Lib.decDigits u)) (aa:=H) ?_ ⟨rfl,rfl⟩;show rT pm [.int .u64 (.ofNat u),.int .i64 10] H=_;have a:j0 H=true:=by unfold j0;rw[b];rfl
 simp only[rT,a,fG,c,decide_true];rfl
theorem Sk(a:fT X){l:List UInt8}{c:Nat}(b:c<=1000)(d:l.length<=1000):Call X pm F.Dg [aA l,.int .i64 (c:Int)] H λr aa=>aa=H/\r=aA (Lib.repeatL l c):=by
 refine Call.over a.rep (v:=aA (Lib.repeatL l c)) (aa:=H) ?_ ⟨rfl,rfl⟩;show rU pm [aA l,.int .i64 (.ofNat c)] H=_;simp[rU,cg,b,d]
end Go.Dam.C
namespace Go.Dam.C
open Go Go.Dam
variable[bq]
attribute [simp] pO
variable{X:ar}{pm:Perm}{H aa:ad}
theorem NF(b:bR pm H){r:Value}{a:List Nat}(c:cE H r a)(d:a.length<=1073741824):
 ∃f d,aQ.run pm (ei 1 r λnew n=>eN 1 4 (.slice none 0 0) new n) H=some (f,d)/\bh pm H d/\cE d f a:=by
 by_cases e:a=[]
 ·subst e;refine⟨.slice none 0 0,H,?_,.refl b,.nil⟩;obtain⟨_,⟨rfl,_⟩ | ⟨_,a,_,_,g,rfl,d,f,_,h,_⟩⟩:=id c
  ·simp[eN]
  ·simp[d,f.row,bx,eN,cg,show a<=g.length by simpa using h]
 ·obtain⟨_,_,_,_,_,rfl,g,h,i⟩:=c.parts e;have d:0<a.length:=qQ.2 e;have j:(bU a).all c6=true:=by
   rw[eD];intro _ a;obtain⟨_,_,rfl⟩:=k1.1 a;rfl
  refine⟨.slice (some ⟨H.next,0,none⟩) a.length a.length,H.new (.cells (bU a) (.n 1)),?_,(bh.refl b).new _,c.1,.inr ⟨H.next,0,a.length,_,bU a,rfl,b4,.inl rfl,?_,?_,bg _,b.new _ (bg _)⟩⟩
  ·simp[g,h,i,eN,cg,j,show ¬a.length=0 by omega,show a.length*4<=17179869184 by omega,show a.length<=17179869184 by omega,b.make,b.pick]
  ·rw[List.drop_zero,mZ (by simp[bU])]
  ·simp[bU]
theorem zs(d:fT X)(t:bR pm H)(E:Tab H){v:Value}{n k:Nat}(G:bV H v n)(w:n<4294967296^k)(I:1<=k)(M:k<100000000):
 Call X pm F.mJ [v] H λr aa=>bh pm H aa/\r=aA (Lib.decDigits n):=by
 obtain⟨J,K,x,z⟩:=G.out;have L:=fv x z w;refine Call.has d.mJ rfl ?_;simp;refine aq.of (by simp) (by simp) (gl d.cN K) ?_;rintro _ _ ⟨rfl,G⟩;obtain⟨K,M,N,h,O⟩:=NF t G (by omega);simp[-ei,N];refine ef.of (λs:Value×List Nat×List UInt8=>[(3,s.1),(4,aA s.2.2)]) (λs aa=>bh pm M aa/\cE aa s.1 s.2.1/\strip s.2.1=s.2.1/\s.2.1.length<=k/\gT (ay s.2.1)++s.2.2=gT n) (λs=>ay s.2.1) (K,J,[]) (by simp) ⟨.refl h.ok,O,x,L,by simp[z]⟩ ?_;rintro⟨_,a,s⟩ _ ⟨e,i,A,B,f⟩;simp only at i A B f;obtain⟨_,_,rfl⟩:=i.form;have x:(gT n).length<=10*k:=by
  unfold gT;split
  ·simp
  ·exact uc w I
 by_cases q:a=[]
 ·subst q;have c:s=gT n:=by simpa [ay,gT]using f
  simp[c];by_cases b:n=0
  ·subst b;simp[gT];exact⟨h.trans e,by rw[Lib.decDigits_one (by omega)];rfl⟩
  ·have:gT n=Lib.decDigits n:=by simp[gT,b]
   rw[this];simp[wU n];exact h.trans e
 ·have w:0<a.length:=qQ.2 q;have F:ay a≠0:=by
   have:=sc A q;have:=qN (n:=a.length-1) (show 0<4294967296 by decide);omega
  simp[w];refine aq.of (by simp) (by simp) (La d.toc4 e.ok i (by omega) (y:=1000000000) (by omega) (by omega)) ?_;rintro _ _ ⟨j,_,b,rfl,q,g,_⟩;simp;refine aq.of (by simp) (by simp) (BU d.dp j.ok q (by omega)) ?_;rintro _ v ⟨r,_,_,_,rfl,q,w,m⟩;have x:=h.trans (e.trans (j.trans r));simp[q,w];refine aq.of (by simp) (by simp) (Ow d (E.u t x) (u:=ay a%1000000000) (by omega)) ?_;rintro _ v ⟨rfl,rfl⟩;obtain⟨C,D,rfl⟩:=m.form;have H:(strip b).length<=k:=by
   have:=fv (k:=k) (sY b) (j' b) (by rw[g];exact cV (kk _ _) (eC (lO i.1) (fX (by decide) B)));exact this
  have o:=Lib.decDigits_length (ay a%1000000000);have h:Lib.nDigits (ay a%1000000000)<=9:=uB (by show _<1000000000;omega) (by omega);have p:=NT (ay a) F;have h:s.length<=10*k:=by
   have:=congrArg List.length f;simp at this;omega
  have P:ay a/1000000000<ay a:=by omega
  by_cases h:strip b=[]
  ·have c:ay a/1000000000=0:=by rw[<-g,<-j',h];rfl
   rw[aT c]at p;simp[h,cg,o,show Lib.nDigits (ay a%1000000000)+s.length<=4294967296 by omega];refine .of (.slice C 0 D,[],Lib.decDigits (ay a%1000000000)++s) (by show ay []<ay a;simp[ay];omega) (by simp) ⟨e.trans (j.trans r),by rw[h]at m;exact m,by simp[strip],by simp,?_⟩;show gT (ay [])++(_++s)=gT n;rw[<-f,<-p,c];simp[ay]
  ·have i:ay a/1000000000≠0:=by
    rw[<-g,<-j'];have:=sc (sY b) h;have:=qN (n:=(strip b).length-1) (show 0<4294967296 by decide);omega
   rw[aC i]at p;have i:wr .i64 ((9:Int)-((Lib.nDigits (ay a%1000000000):Nat):Int))=((9-Lib.nDigits (ay a%1000000000):Nat):Int):=by rw[b8 (by omega) (by omega)];omega
   have k:0<(strip b).length:=qQ.2 h;simp[k,cg,o,i];refine aq.of (by simp) (by simp) (Sk d (l:=[48]) (c:=9-Lib.nDigits (ay a%1000000000)) (by omega) (by simp)) ?_;rintro _ v ⟨rfl,rfl⟩;have d:(Lib.repeatL [48] (9-Lib.nDigits (ay a%1000000000))).length=9-Lib.nDigits (ay a%1000000000):=by rw[Kq];simp
   simp[cg,o,d,show 9-Lib.nDigits (ay a%1000000000)+Lib.nDigits (ay a%1000000000)<=4294967296 by omega,show 9-Lib.nDigits (ay a%1000000000)+Lib.nDigits (ay a%1000000000)+s.length<=4294967296 by omega];refine .of (.slice C (strip b).length D,strip b,Lib.repeatL [48] (9-Lib.nDigits (ay a%1000000000))++Lib.decDigits (ay a%1000000000)++s) (by show ay (strip b)<ay a;rw[j',g];exact P) (by simp) ⟨e.trans (j.trans r),m,sY b,H,?_⟩;show gT (ay (strip b))++(_++s)=gT n;rw[j',g,<-f,<-p,o];simp
end Go.Dam.C
namespace Go.Dam.C
open Go Go.Dam
variable{X:ar}{pm:Perm}{H aa:ad}
section
variable[bq]
def e3(c:UInt8):Bool:=Nat.ble 48 c.toNat&&Nat.ble c.toNat 57
def ly(a:Nat)(l:List UInt8):Nat:=l.foldl (λb c=>b*10+(c.toNat-48)) a
def c'(l:List UInt8):Nat:=ly 0 l
end
theorem NU(l:List UInt8):∀a,ly a l=a*10^l.length+c' l:=by
 induction l with
 | nil=>intro a;simp[ly,c']
 | cons c l ih=>
   intro a;have b:=ih (a*10+(c.toNat-48));have a:=ih (0*10+(c.toNat-48));simp only[c',ly,sy]at b a|-;rw[b,a,gu,dH];grind
theorem Aq(a b:List UInt8):c' (a++b)=c' a*10^b.length+c' b:=by
 rw[c',ly,List.foldl_append];exact NU b _
theorem wT{l:List UInt8}(h:l.all e3=true):c' l<10^l.length:=by
 induction l with
 | nil=>simp[c',ly]
 | cons c l ih=>
   simp only[nc,b3]at h;have a:=ih h.2;have a:c' (c::l)=(c.toNat-48)*10^l.length+c' l:=by
    have:=Aq [c] l;simpa [c',ly]using this
   have b:c.toNat-48<=9:=by
    have:=h.1;simp[e3,cg]at this;omega
   rw[a,gu,dH];have:=e8 (10^l.length) b;omega
theorem J0:∀(l:List UInt8) (a:Nat),l.all e3=true->(a+1)*10^l.length<=1000000000->Lib.parseUintM (2^32-1) a l=.ok (ly a l)
 | [],a,_,_=>rfl
 | c::l,a,h,d=>by
   simp only[nc,b3]at h;have b:=h.1;simp[e3,cg]at b;rw[gu,dH]at d;have f:1<=10^l.length:=sA _ _ (by decide);have e:(a*10+(c.toNat-48)+1)*10^l.length<=1000000000:=by
    refine aY (e8 _ (show a*10+(c.toNat-48)+1<=(a+1)*10 by omega)) ?_;rw[jC,dW 10];exact d
   have d:a*10+(c.toNat-48)+1<=1000000000:=aY (sJ _ f) e;rw[Lib.parseUintM,aT ⟨b.1,b.2⟩,aC (by omega),aC (by omega)];exact J0 l _ h.2 e
section
variable[bq]
abbrev pS:List UInt8:=[48,49,50,51,52,53,54,55,56,57]
end
theorem Tp(c:UInt8):pS.contains c=e3 c:=by
 have:∀n:_root_.Fin 256,pS.contains (UInt8.ofNat n.val)=e3 (UInt8.ofNat n.val):=by decide +kernel
 have h:=this ⟨c.toNat,c.toNat_lt⟩;simpa using h
theorem dropWhile_nil{p:UInt8->Bool}:∀{l:List UInt8},l.dropWhile p=[]->l.all p=true
 | [],_=>rfl
 | c::l,h=>by
   rw[List.dropWhile_cons]at h;split at h
   ·rename_i a;simp[a];have:=dropWhile_nil h;simpa using this
   ·cases h
theorem Lx{l:List UInt8}:(Lib.trimS l pS=[])↔l.all e3=true:=by
 have e:(λc=>pS.contains c)=e3:=funext Tp;constructor
 ·intro h;unfold Lib.trimS Lib.trimLeftS Lib.trimRightS at h;rw[e]at h;have a:=dropWhile_nil h;rw[List.all_reverse]at a;have b:(l.reverse.takeWhile e3).all e3=true:=by
   exact List.all_takeWhile
  have d:l.reverse.all e3=true:=by
   rw[<-List.takeWhile_append_dropWhile (p:=e3) (l:=l.reverse),List.all_append,b,a];rfl
  rwa [List.all_reverse]at d
 ·intro h;unfold Lib.trimS Lib.trimLeftS Lib.trimRightS;rw[e];have a:l.reverse.dropWhile e3=[]:=by
   have:l.reverse.all e3=true:=by rw[List.all_reverse];exact h
   generalize l.reverse=m at*
   induction m with
   | nil=>rfl
   | cons c m ih=>
     simp only[nc,b3]at this;rw[List.dropWhile_cons,aT this.1];exact ih this.2
  rw[a];rfl
theorem TC(a:fT X){l:List UInt8}(b:l.length<=1000000):Call X pm F.vq [aA l,aA pS] H λr aa=>aa=H/\r=aA (Lib.trimS l pS):=by
 refine Call.over a.trim (v:=aA (Lib.trimS l pS)) (aa:=H) ?_ ⟨rfl,rfl⟩;simp only[uj,cg,I6,b,decide_true,Bool.true_and];rfl
theorem RQ(a:fT X){l:List UInt8}(h:l.all e3=true)(b:l≠[])(c:l.length<=9):Call X pm F.Db [aA l,.int .i64 10,.int .i64 32] H λr aa=>aa=H/\r=.tuple #[.int .u64 ((c' l:Nat):Int),.nilIface]:=by
 refine Call.over a.parse (v:=.tuple #[.int .u64 ((c' l:Nat):Int),.nilIface]) (aa:=H) ?_ ⟨rfl,rfl⟩;have a:Lib.parseUintB 32 l=.ok (c' l):=by
  unfold Lib.parseUintB;rw[aC b];refine J0 l 0 h ?_;have:10^l.length<=10^9:=fX (by decide) c;omega
 simp only[ui,cg,I6,show l.length<=1000000 by omega,decide_true];simp[a]
section
variable[bq]
def gm(l:List UInt8):Bool:=!l.isEmpty&&(Nat.ble l.length 2000&&(!(Nat.blt 1 l.length&&l.head? ==some 48)&&l.all e3))
end
theorem Kg(n:Nat):10^n<=4294967296^n:=x9 (by decide) n
theorem MQ{p:UInt8->Bool}{l:List UInt8}(h:l.all p=true)(k:Nat):(l.take k).all p=true/\(l.drop k).all p=true:=by
 have:=h;rw[<-uY k l,List.all_append,b3]at this;exact this
section
variable[bq]
def oX(pm:Perm)(H:ad)(l:List UInt8):b5:=λx b aa=>(x=dS.normal∨x=dS.ret)/\∃a,hU b aa [.slot 2,.slot 3]=some a/\(bh pm H aa/\(gm l=false/\f' a=.tuple #[.pointer none,.bool false]∨gm l=true/\∃p,f' a=.tuple #[p,.bool true]/\bV aa p (c' l)))
theorem Mq(b:fT X)(j:bR pm H){l:List UInt8}(G:gm l=true)(B:l.all e3=true)(o:l.length<=2000)(I:1<=l.length){L:bb}(C:aK 0 L=some (aA l)):
 wp X pm (.code po) L H [] (oX pm H l):=by
 simp;refine aq.of (by simp) (by simp) (BU b.dp j cE.nil (by simp)) ?_;rintro j o ⟨D,p⟩;have p:bV o j 0:=(show dP o j (strip []) from .inr p).nat;have s:wr .i64 ((l.length%9:Nat):Int)=((l.length%9:Nat):Int):=b8 (by omega) (by omega);have O:wr .i64 ((l.length:Int)%9)=((l.length%9:Nat):Int):=by rw[<-s];simp
 simp[C]
 refine ef.of (λs:List UInt8×Nat×Value×Nat=>[(0,aA s.1),(5,.int .i64 (s.2.1:Int)),(4,s.2.2.1)])
  (λs aa=>bh pm o aa/\bV aa s.2.2.1 s.2.2.2/\s.1.all e3=true/\s.1.length<=l.length/\c' l=s.2.2.2*10^s.1.length+c' s.1/\(s.2.1=9->s.1.length%9=0)/\(s.2.1≠9->s.2.1=s.1.length%9/\s.2.2.2=0))
  (λs=>2*s.1.length+(if s.2.1=9 then 0 else 1)) (l,l.length%9,j,0) (by simp[C]) ⟨.refl D.ok,p,B,bg _,by simp,by simp;omega,by simp⟩ ?_
 rintro⟨r,a,J,m⟩ K ⟨c,f,q,E,g,t,d⟩;simp only at f q E g t d;by_cases i:r=[]
 ·subst i;have:m=c' l:=by rw[g];simp[c',ly]
  simp[oX,G];exact⟨D.trans c,by rw[<-this];exact f⟩
 ·have j:0<r.length:=qQ.2 i;by_cases H:a=0
  ·subst H;have:=d (by omega);simp[i];exact .of (r,9,J,m) (by simp) (by simp) ⟨c,f,eD.1 q,E,g,λ_=>this.1.symm,λh=>absurd rfl h⟩
  ·have j:0<a:=by omega
   have u:a<=r.length/\a<=9:=by
    by_cases h:a=9
    ·have:=t h;omega
    ·have:=d h;omega
   have v:=MQ q a;have w:(r.take a).length=a:=by simp;omega
   have e:(r.drop a).length=r.length-a:=by simp
   simp[i,j,u];refine aq.of (by simp) (by simp) (RQ b v.1 (by intro h;rw[h]at w;simp at w;omega) (by omega)) ?_;rintro _ K ⟨rfl,rfl⟩;have L:List.take (r.length-a) (r.drop a)=r.drop a:=mZ (by rw[e];exact bg _);have i:=wT v.1;rw[w]at i;have j:c' (r.take a)<1000000000:=eC i (fX (n:=10) (by decide) u.2);have i:c' r=c' (r.take a)*10^(r.length-a)+c' (r.drop a):=by
    conv=>lhs;rw[<-uY a r]
    rw[Aq,e]
   have F:c' l=(m*1000000000+c' (r.take a))*10^(r.length-a)+c' (r.drop a):=by
    rw[g,i];by_cases h:a=9
    ·have:10^r.length=1000000000*10^(r.length-a):=by
      rw[h,show(1000000000:Nat)=10^9 from rfl,<-fH];congr 1;omega
     rw[this];grind
    ·rw[(d h).2];simp
   have i:=wT B;have j:1<=10^(r.length-a):=sA _ _ (by decide);have g:m*1000000000+c' (r.take a)<4294967296^l.length:=by
    refine cV ?_ (eC i (Kg _));rw[F];exact aY (sJ _ j) (e9 _ _)
   have i:1000000000<4294967296^l.length:=by
    have:4294967296^1<=4294967296^l.length:=fX (by decide) I;omega
   simp;refine aq.of (by simp) (by simp) (uK b.toc4 c.ok (x:=1000000000) (by omega)) ?_;rintro _ _ ⟨y,j⟩;simp;refine aq.of (by simp) (by simp) (pn b.toc4 y.ok (f.u c.ok y) j (k:=l.length) (cV (by omega) g) i (by omega)) ?_;rintro _ _ ⟨z,f⟩;simp;refine aq.of (by simp) (by simp) (uK b.toc4 z.ok (x:=c' (r.take a)) (by omega)) ?_;rintro _ _ ⟨A,i⟩;simp;refine aq.of (by simp) (by simp) (zv b.toc4 A.ok (f.u z.ok A) i (k:=l.length) (cV (e9 _ _) g) (cV (Nat.le_add_left _ _) g) (by omega)) ?_;rintro b _ ⟨M,N⟩;simp[u];refine .of (r.drop a,9,b,m*1000000000+c' (r.take a)) (by show 2*(r.drop a).length+0<2*r.length+_;rw[e];omega) (by simp;exact L.symm▸rfl) ⟨c.trans (y.trans (z.trans (A.trans M))),N,eD.1 v.2,by simp;omega,by show c' l=_;simp only;rw[e];exact F,λ_=>?_,λh=>absurd rfl h⟩;show(r.drop a).length%9=0;rw[e];by_cases h:a=9
   ·have:=t h;omega
   ·have:=(d h).1;omega
theorem zc(f:fT X)(d:bR pm H){l:List UInt8}:
 Call X pm F.lM [aA l] H λr aa=>bh pm H aa/\(gm l=false/\r=.tuple #[.pointer none,.bool false]∨gm l=true/\∃p,r=.tuple #[p,.bool true]/\bV aa p (c' l)):=by
 refine Call.has f.lM rfl ?_;show wp X pm (.code lM.body) _ H [] (oX pm H l)
 cases a:l with
 | nil=>
   simp;refine aq.not (by simp) ?_;simp[gm,oX];exact .refl d
 | cons c _=>
   rw[<-a];have e:l.isEmpty=false:=by rw[a];rfl
   have i:l[0]? = some c:=by rw[a];rfl
   have j:l≠[]:=by rw[a];simp
   have j:l.head? = some c:=by rw[a];rfl
   have g:gm l=(Nat.ble l.length 2000&&(!(Nat.blt 1 l.length&&c==48)&&l.all e3)):=by unfold gm;rw[e,j];simp
   by_cases j:2000<l.length
   ·simp[e,j];refine aq.not (by simp) ?_;simp[oX,g,cg,show ¬l.length<=2000 by omega];exact .refl d
   ·simp[e,j];by_cases b:1<l.length/\c.toNat=48
    ·simp[b.1,b.2,i];refine aq.not (by simp) ?_;have e:c=48:=u3.1 (by rw[b.2];rfl);simp[oX,g,fG,b.1,e];exact .refl d
    ·have k:∀{L:bb},aK 0 L=some (aA l)->aK 25 L=some (.bool false)->aq X pm ⟨some 27,some (25,false),.call F.vq [.t 26,.c (.string ⟨#[48,49,50,51,52,53,54,55,56,57]⟩)]⟩ F.vq [.t 26,.c (.string ⟨#[48,49,50,51,52,53,54,55,56,57]⟩)] uD ((26,aA l)::L) H [.seq uC,.seq po] (oX pm H l):=by
      intro L m h;refine aq.of (by simp[h]) (by simp) (TC f (l:=l) (by omega)) ?_;rintro _ H ⟨rfl,rfl⟩;have j:gm l=l.all e3:=by
       rw[g];have g:Nat.ble l.length 2000=true:=by simp[cg];omega
       have n:(Nat.blt 1 l.length&&c==48)=false:=by
        by_cases o:1<l.length
        ·by_cases e:c=48
         ·exact absurd ⟨o,by rw[e];rfl⟩ b
         ·simp[e]
        ·simp[fG];omega
       rw[g,n];simp
      by_cases e:l.all e3=true
      ·have g:=Lx.2 e;simp[h,g,-po];exact Mq f d (by rw[j];exact e) e (by omega) (by rw[a];simp) (by simp[m])
      ·have a:Lib.trimS l pS≠[]:=λf=>e (Lx.1 f);simp[h,a,-po,oX,j,e];exact .refl d
     by_cases a:1<l.length
     ·have d:((c.toNat:Int)==48)=false:=by
       have:¬c.toNat=48:=λh=>b ⟨a,h⟩;simp;omega
      simp[a,d,i,-po,-uC,-uD];refine k ?_ ?_<;>simp[*]
     ·simp[a,-po,-uC,-uD];refine k ?_ ?_<;>simp[*]
end
theorem Mu(a:fT X)(c:UInt8)(t:List UInt8):Call X pm F.l7 [aA (c::t),aA [c]] H λr aa=>aa=H/\r=.bool true:=by
 refine Call.has a.l7 rfl ?_;simp[show ¬((t.length:Int)+1<1) by omega]
theorem Mt(a:fT X)(c:UInt8){l:List UInt8}(h:l.head?≠some c):Call X pm F.l7 [aA l,aA [c]] H λr aa=>aa=H/\r=.bool false:=by
 refine Call.has a.l7 rfl ?_
 cases l with
 | nil=>simp
 | cons d t=>
   have:d≠c:=λe=>h (by rw[e];rfl);simp[this,show ¬((t.length:Int)+1<1) by omega]
theorem L5(a:fT X)(c:UInt8)(t:List UInt8):Call X pm F.l' [aA (c::t),aA [c]] H λr aa=>aa=H/\r=.tuple #[aA t,.bool true]:=by
 refine Call.has a.l' rfl ?_;simp;have h:Call X pm F.l6 [aA (c::t),aA [c]] H λr aa=>aa=H/\r=.tuple #[aA t,.bool true]:=by
  refine Call.has a.l6 rfl ?_;simp;refine aq.of (by simp) (by simp) (Mu a c t) ?_;rintro _ _ ⟨rfl,rfl⟩;simp
 refine aq.of (by simp) (by simp) h ?_;rintro _ _ ⟨rfl,rfl⟩;simp
theorem L4(a:fT X)(c:UInt8){l:List UInt8}(h:l.head?≠some c):Call X pm F.l' [aA l,aA [c]] H λr aa=>aa=H/\r=.tuple #[aA l,.bool false]:=by
 refine Call.has a.l' rfl ?_;simp;have h:Call X pm F.l6 [aA l,aA [c]] H λr aa=>aa=H/\r=.tuple #[aA l,.bool false]:=by
  refine Call.has a.l6 rfl ?_;simp;refine aq.of (by simp) (by simp) (Mt a c h) ?_;rintro _ _ ⟨rfl,rfl⟩;simp
 refine aq.of (by simp) (by simp) h ?_;rintro _ _ ⟨rfl,rfl⟩;simp
theorem H5:∀{l:List UInt8} {n:Nat},47∉l->iU 47 l n=-1
 | [],_,_=>rfl
 | c::l,n,h=>by
   have a:¬c.toNat=47:=λe=>h (by rw[show c=47 from u3.1 (by rw[e];rfl)];exact .head _);simp only[iU,cC,a,decide_false,cond_false];exact H5 λa=>h (.tail _ a)
theorem H6:∀{a:List UInt8} {b:List UInt8} {n:Nat},47∉a->iU 47 (a++47::b) n=((n+a.length:Nat):Int)
 | [],b,n,_=>by
   simp only[u4,iU,cC];rfl
 | c::a,b,n,h=>by
   have a:¬c.toNat=47:=λe=>h (by rw[show c=47 from u3.1 (by rw[e];rfl)];exact .head _);simp only[kl,iU,cC,a,decide_false,cond_false];rw[H6 λa=>h (.tail _ a)];simp only[gu];congr 1;omega
theorem OT(a:fT X)(l:List UInt8):Call X pm F.zD [aA l,.int .u8 47] H λr aa=>aa=H/\r=.int .i64 (iU 47 l 0):=
 Call.over a.idx (v:=.int .i64 (iU 47 l 0)) (aa:=H) rfl ⟨rfl,rfl⟩
theorem FP(a:fT X)(l:List UInt8):Call X pm F.oC [aA l,aA [47]] H λr aa=>aa=H/\r=.int .i64 (iU 47 l 0):=by
 refine Call.has a.oC rfl ?_;have h:Call X pm F.nn [aA l,.int .u8 47] H λr aa=>aa=H/\r=.int .i64 (iU 47 l 0):=by
  refine Call.has a.nn rfl ?_;simp;refine aq.of (by simp) (by simp) (OT a l) ?_;rintro _ _ ⟨rfl,rfl⟩;simp
 by_cases b:[47]=l
 ·subst b;simp;rfl
 simp[b];refine aq.of (by simp) (by simp) h ?_;rintro _ _ ⟨rfl,rfl⟩;simp
theorem L7(a:fT X){l:List UInt8}(b:47∉l):Call X pm F.l9 [aA l,aA [47]] H λr aa=>aa=H/\r=.tuple #[aA l,aA [],.bool false]:=by
 refine Call.has a.l9 rfl ?_;simp;have h:Call X pm F.l5 [aA l,aA [47]] H λr aa=>aa=H/\r=.tuple #[aA l,aA [],.bool false]:=by
  refine Call.has a.l5 rfl ?_;simp;refine aq.of (by simp) (by simp) (FP a l) ?_;rintro _ _ ⟨rfl,rfl⟩;rw[H5 b];simp
 refine aq.of (by simp) (by simp) h ?_;rintro _ _ ⟨rfl,rfl⟩;simp
section
variable[bq]
theorem L9(c:fT X)(d:bR pm H){a b:List UInt8}(e:47∉a)(i:a.length<1000000):Call X pm F.l9 [aA (a++47::b),aA [47]] H λr aa=>bh pm H aa/\r=.tuple #[aA a,aA b,.bool true]:=by
 refine Call.has c.l9 rfl ?_;simp;have h:Call X pm F.l5 [aA (a++47::b),aA [47]] H λr aa=>bh pm H aa/\r=.tuple #[aA a,aA b,.bool true]:=by
  refine Call.has c.l5 rfl ?_;simp;refine aq.of (by simp) (by simp) (FP c (a++47::b)) ?_;rintro _ _ ⟨rfl,rfl⟩;rw[H6 e];have f:wr .i64 ((a.length:Int)+1)=((a.length+1:Nat):Int):=by rw[b8 (by omega) (by omega)];simp
  simp;refine cy.tP d rfl rfl rfl ?_;simp[f];exact⟨(bh.refl d).up _,by rw[mZ (by omega)]⟩
 refine aq.of (by simp) (by simp) h ?_;rintro _ _ ⟨g,rfl⟩;simp;exact g
end
theorem Lm{neg:Bool}{n d k:Nat}(a:n<4294967296^k)(b:d<4294967296^k)(c:d≠0):aS (fs neg n d) k:=by
 have h:(if neg then -(n:Int) else(n:Int)).natAbs=n:=by cases neg<;>simp
 unfold fs;rw[<-uV c,u2];refine⟨cV ?_ a,cV (kk _ _) b⟩
 conv=>rhs;rw[<-h]
 exact uT _ _
theorem vC{n:Int}:wr .u64 n=n%18446744073709551616:=by
 rw[oI];simp[IntKind.wrap,IntKind.bits,IntKind.signed]
theorem LR(a:fT X){n:Int}(b:-9223372036854775808<=n)(b:n<=9223372036854775807):Call X pm F.nH [.int .i64 n] H λr aa=>aa=H/\r=.int .u64 ((n.natAbs:Nat):Int):=by
 refine Call.has a.nH rfl ?_;by_cases a:n<0
 ·have e:wr .u64 (0-wr .u64 n)=((n.natAbs:Nat):Int):=by rw[vC,vC];omega
  have b:wr .u64 (-wr .u64 n)=((n.natAbs:Nat):Int):=by rw[vC,vC];omega
  simp[a,b]
 ·have e:wr .u64 n=((n.natAbs:Nat):Int):=by rw[vC];omega
  simp[a,e]
section
variable[bq]
theorem MD(c:fT X)(k:bR pm H){n:Int}(l:-9223372036854775808<=n)(m:n<=9223372036854775807):Call X pm F.fW [.int .i64 n] H λr aa=>bh pm H aa/\fA aa r (n:Rat):=by
 refine Call.has c.fW rfl ?_;simp;refine aq.of (by simp) (by simp) (LR c l m) ?_;rintro _ _ ⟨rfl,rfl⟩;simp;refine aq.of (by simp) (by simp) (uK c.toc4 k (x:=n.natAbs) (by omega)) ?_;rintro k _ ⟨d,f⟩;simp;refine aq.of (by simp) (by simp) (se c.toc4 d.ok) ?_;rintro o _ ⟨a,g⟩;have p:∃b,k=.pointer b:=by
  rcases f.ptr with⟨h,_⟩ | ⟨b,h⟩
  ·exact⟨_,h⟩
  ·exact⟨_,h⟩
 have q:∃b,o=.pointer b:=by
  rcases g.ptr with⟨h,_⟩ | ⟨b,h⟩
  ·exact⟨_,h⟩
  ·exact⟨_,h⟩
 obtain⟨i,rfl⟩:=p;obtain⟨j,rfl⟩:=q;simp[a.ok.make,a.ok.pick];have e:=(bh.refl a.ok).new (bk.cells [.bool (decide (n<0)),.pointer i,.pointer j] (.t T.RZ));refine⟨d.trans (a.trans e),⟨.inr ⟨_,_,.pointer i,.pointer j,rfl,b4,?_,?_,?_⟩⟩,_,_,_,rfl,b4⟩
 ·exact⟨by simp[Rat.intCast_neg_iff],rfl⟩
 ·rw[Rat.num_intCast];exact(f.u d.ok a).u a.ok e
 ·rw[Rat.den_intCast];exact g.u a.ok e
def cZ(q:Rat):List UInt8:=(if q<0 then[45] else[])++(Lib.decDigits q.num.natAbs++(if q.den=1 then[] else 47::Lib.decDigits q.den))
end
theorem Ar(n:Nat):c' (Lib.decDigits n)=n:=by
 induction n using Nat.strongRecOn with
 | _ n ih=>
   by_cases h:n<10
   ·rw[Lib.decDigits_one h];have:(48+n)%256=48+n:=by omega
    simp[c',ly,this]
   ·rw[Lib.decDigits,dif_neg h,Aq,ih (n/10) (by omega)];have:(48+n%10)%256=48+n%10:=by omega
    simp[c',ly,this];omega
theorem NW{n m:Nat}(h:Lib.decDigits n=Lib.decDigits m):n=m:=by rw[<-Ar n,h,Ar]
theorem wV{n:Nat}:Lib.decDigits n=[49]↔n=1:=by
 have a:Lib.decDigits 1=[49]:=by rw[Lib.decDigits_one (by omega)];rfl
 constructor
 ·intro h;rw[<-a]at h;exact NW h
 ·rintro rfl;exact a
section
variable[bq]
theorem Gf(b:fT X)(i:bR pm H)(l:Tab H){v:Value}{q:Rat}{k:Nat}(h:eY H v q)(c:aS q k)(d:1<=k)(j:k<100000000):
 Call X pm F.hy [v] H λr aa=>bh pm H aa/\r=aA (cZ q):=by
 refine Call.has b.hy rfl ?_;simp;refine aq.of (by simp) (by simp) (lk b.toc4 i h) ?_;rintro _ _ ⟨f,_,_,rfl,p,s⟩;simp;refine aq.of (by simp) (by simp) (zs b f.ok (l.u i f) p c.1 d j) ?_;rintro _ _ ⟨g,rfl⟩;have p:=uc c.1 d;have p:=uc c.2 d;have e:=f.trans g;have m:=l.u i e;have n:=s.u f.ok g;by_cases a:q<0
 ·simp[a,cg,show 1+(Lib.decDigits q.num.natAbs).length<=4294967296 by omega];refine aq.of (by simp) (by simp) (zs b g.ok m n c.2 d j) ?_;rintro _ _ ⟨o,rfl⟩;by_cases k:q.den=1
  ·have h:Lib.decDigits 1=[49]:=wV.2 rfl;simp[k,h,cZ,a];exact e.trans o
  ·have f:Lib.decDigits q.den≠[49]:=λh=>k (wV.1 h);simp[f,cZ,a,k,cg,show 1+(Lib.decDigits q.den).length<=4294967296 by omega,show(Lib.decDigits q.num.natAbs).length+1+((Lib.decDigits q.den).length+1)<=4294967296 by omega];exact e.trans o
 ·simp[a];refine aq.of (by simp) (by simp) (zs b g.ok m n c.2 d j) ?_;rintro _ _ ⟨o,rfl⟩;by_cases k:q.den=1
  ·have h:Lib.decDigits 1=[49]:=wV.2 rfl;simp[k,h,cZ,a];exact e.trans o
  ·have b:Lib.decDigits q.den≠[49]:=λh=>k (wV.1 h);simp[b,cZ,a,k,cg,show 1+(Lib.decDigits q.den).length<=4294967296 by omega,show(Lib.decDigits q.num.natAbs).length+((Lib.decDigits q.den).length+1)<=4294967296 by omega];exact e.trans o
def lD(l:List UInt8)(neg:Bool)(a b:List UInt8):Option Rat:=
 if gm a=true/\gm b=true/\c' b≠0/\cZ (fs neg (c' a) (c' b))=l then some (fs neg (c' a) (c' b)) else none
def gn(l:List UInt8):Bool×List UInt8:=if l.head? = some 45 then(true,l.tail) else(false,l)
def iT(t:List UInt8):List UInt8×List UInt8:=if 47∈t then(t.takeWhile (· != 47),(t.dropWhile (· != 47)).tail) else(t,[49])
def gH(l:List UInt8):Option Rat:=lD l (gn l).1 (iT (gn l).2).1 (iT (gn l).2).2
def oW(pm:Perm)(H:ad)(o:Option Rat):b5:=λx b aa=>(x=dS.normal∨x=dS.ret)/\∃a,hU b aa [.slot 2,.slot 3]=some a/\(bh pm H aa/\(o=none/\f' a=.tuple #[.pointer none,.bool false]∨∃q p,o=some q/\f' a=.tuple #[p,.bool true]/\fA aa p q))
end
theorem xk{l:List UInt8}(h:gm l=true):c' l<4294967296^l.length/\l.length<=2000/\1<=l.length:=by
 unfold gm at h;simp[cg]at h;refine⟨eC (wT (by rw[eD];exact h.2.2.2)) (Kg _),h.2.1,?_⟩
 cases l with
 | nil=>exact absurd rfl h.1
 | cons=>simp
section
variable[bq]
theorem HA(c:fT X){aj:ad}(d:bh pm aj H)(s:Tab H){l a b:List UInt8}{neg:Bool}{L:bb}(i:aK 0 L=some (aA l))(t:aK 5 L=some (.bool neg))(u:aK 6 L=some (aA a))(j:aK 7 L=some (aA b)):
 wp X pm (.code qJ) L H [] (oW pm aj (lD l neg a b)):=by
 have k:=d.ok;simp[u,-lR];refine aq.of (by simp) (by simp) (zc c k (l:=a)) ?_;rintro _ _ ⟨e,v⟩
 rcases v with⟨g1,rfl⟩ | ⟨g1,c7,rfl,OO⟩
 ·simp[j,-lR];refine aq.of (by simp) (by simp) (zc c e.ok (l:=b)) ?_;rintro _ _ ⟨a,f⟩
  rcases f with⟨g2,rfl⟩ | ⟨g2,bl,rfl,AZ⟩<;>
  ·simp[-lR];refine aq.not (by simp) ?_;simp[oW,lD,g1,-lR];exact d.trans (e.trans a)
 ·simp[j,-lR];refine aq.of (by simp) (by simp) (zc c e.ok (l:=b)) ?_;rintro _ _ ⟨g,w⟩
  rcases w with⟨g2,rfl⟩ | ⟨g2,bl,rfl,AZ⟩
  ·simp[-lR];refine aq.not (by simp) ?_;simp[oW,lD,g2,-lR];exact d.trans (e.trans g)
  ·have m:=e.trans g;have x:=OO.u e.ok g;obtain⟨j,_,_⟩:=xk g1;obtain⟨e,_,_⟩:=xk g2;have n:=kg j (e9 a.length b.length);have o:=kg e (Nat.le_add_left b.length a.length);simp[-lR];refine aq.of (by simp) (by simp) (pW c.toc4 AZ e (by omega)) ?_;rintro _ _ ⟨rfl,rfl⟩;by_cases f:c' b=0
   ·simp[f,oW,lD,-lR];exact d.trans m
   ·simp[f,t];refine aq.of (by simp) (by simp) (sZ c.toc4 g.ok (neg:=neg) x AZ n o (by omega) f) ?_;rintro _ _ ⟨h,p⟩;have q:=m.trans h;simp;refine aq.of (by simp) (by simp) (Gf c h.ok (s.u k q) p.1 (Lm n o f) (by omega) (by omega)) ?_;rintro _ _ ⟨r,rfl⟩;have e:=q.trans r;by_cases c:cZ (fs neg (c' a) (c' b))=l
    ·simp[i,c,oW];refine⟨d.trans e,_,?_,p.u h.ok r⟩;simp[lD,g1,g2,f,c]
    ·simp[i,c,oW,lD];exact d.trans e
theorem Mo(c:fT X)(f:bR pm H)(i:Tab H){l:List UInt8}(s:l.length<1000000):
 Call X pm F.hQ [aA l] H λr aa=>bh pm H aa/\(gH l=none/\r=.tuple #[.pointer none,.bool false]∨∃q p,gH l=some q/\r=.tuple #[p,.bool true]/\fA aa p q):=by
 refine Call.has c.hQ rfl ?_;show wp X pm (.code hQ.body) _ H [] (oW pm H (gH l));have j:∀{L:bb},(gn l).2.length<=l.length->aK 0 L=some (aA l)->aK 4 L=some (aA (gn l).2)->aK 5 L=some (.bool (gn l).1)->wp X pm (.code sv) L H [] (oW pm H (gH l)):=by
  intro L k m g h;unfold gH;generalize q:gn l=o at*
  obtain⟨_,t⟩:=o;simp only at g h k;simp only;by_cases e:47∈t
  ·obtain⟨a,b,rfl,l⟩:=List.eq_append_cons_of_mem e;have p:iT (a++47::b)=(a,b):=by
    have b:∀x∈a,(x != (47:UInt8))=true:=λx n=>by
     simp;rintro rfl;exact l n
    unfold iT;rw[aT e,List.takeWhile_append_of_pos b,List.dropWhile_append_of_pos b];simp
   rw[p];simp[g,-qJ];refine aq.of (by simp) (by simp) (L9 c f (a:=a) (b:=b) l (by simp at k;omega)) ?_;rintro _ _ ⟨n,rfl⟩;simp[-qJ];refine HA c n (i.u f n) ?_ ?_ ?_ ?_<;>simp[m,h]
  ·have a:iT t=(t,[49]):=by unfold iT;rw[aC e]
   rw[a];simp[g,-qJ];refine aq.of (by simp) (by simp) (L7 c (l:=t) e) ?_;rintro _ _ ⟨rfl,rfl⟩;simp[-qJ];refine HA c (.refl f) i ?_ ?_ ?_ ?_<;>simp[m,h]
 simp[-sv];by_cases d:l.head? = some 45
 ·have b:l=45::l.tail:=by
   cases l with
   | nil=>cases d
   | cons _ _=>simp at d;subst d;rfl
  have e:gn l=(true,l.tail):=by unfold gn;rw[aT d]
  have a:=L5 (X:=X) (pm:=pm) (H:=H) c 45 l.tail;rw[<-b]at a;refine aq.of (by simp) (by simp) a ?_;rintro _ _ ⟨rfl,rfl⟩;simp[-sv];refine j ?_ ?_ ?_ ?_<;>simp[e]
 ·have a:gn l=(false,l):=by unfold gn;rw[aC d]
  refine aq.of (by simp) (by simp) (L4 c 45 d) ?_;rintro _ _ ⟨rfl,rfl⟩;simp[-sv];refine j ?_ ?_ ?_ ?_<;>simp[a]
theorem ML(a:c4 X)(f:bR pm H){v:Value}{q:Rat}{k:Nat}(h:eY H v q)(d:aS q k)(g:k<67108864):
 Call X pm F.lT [v] H λr aa=>bh pm H aa/\r=.bool (decide (q.den=1)):=by
 refine Call.has a.lT rfl ?_;simp;refine aq.of (by simp) (by simp) (lk a f h) ?_;rintro _ _ ⟨b,_,_,rfl,_,f⟩;simp;refine aq.of (by simp) (by simp) (se a b.ok) ?_;rintro _ _ ⟨e,c⟩;simp;refine aq.of (by simp) (by simp) (zU a (f.u b.ok e) c d.2 (cV (m' q.den_nz) d.2) (by omega)) ?_;rintro _ _ ⟨rfl,rfl⟩;simp;refine⟨b.trans e,?_⟩;unfold e1;have:=q.den_nz;by_cases a:q.den=1
 ·simp[a]
 ·have c:q.den≠0:=this;simp[a,c]
omit [bq] in
theorem Ov(q:Rat):fs (decide (q<0)) (q.num.natAbs/q.den+(if q<0/\q.num.natAbs%q.den≠0 then 1 else 0)) 1=(q.floor:Rat):=by
 rw[r6];have b:(0:Int)<q.den:=Int.natCast_pos.2 q.den_pos;have e:hA (decide (q<0)) (q.num.natAbs/q.den+(if q<0/\q.num.natAbs%q.den≠0 then 1 else 0))=q.floor:=by
  conv=>rhs;rw[Rat.floor_def,kV q]
  unfold hA;by_cases h:q<0
  ·simp only[h,decide_true,if_true,true_and];rw[Int.neg_ediv];by_cases a:q.num.natAbs%q.den=0
   ·have c:(q.den:Int)∣(q.num.natAbs:Int):=Int.natCast_dvd_natCast.2 (Nat.dvd_of_mod_eq_zero a);simp[a,c]
   ·have c:¬(q.den:Int)∣(q.num.natAbs:Int):=λh=>a (Nat.mod_eq_zero_of_dvd (Int.natCast_dvd_natCast.1 h));rw[aT a,aC c,Int.sign_eq_one_of_pos b];simp only[Int.natCast_add,Int.natCast_ediv];omega
  ·simp[h]
 rw[e];exact Rat.mkRat_one _
theorem Ml(a:c4 X)(n:bR pm H){v:Value}{q:Rat}{k:Nat}(h:eY H v q)(e:aS q k)(p:k<67108864):
 Call X pm F.mU [v] H λr aa=>bh pm H aa/\fA aa r (q.floor:Rat):=by
 refine Call.has a.mU rfl ?_;have f:=Ov q;have g:q.num.natAbs/q.den<4294967296^k:=cV (kk _ _) e.1;have l:1<4294967296^(k+1):=Nat.one_lt_pow (by omega) (by omega);simp[-kX];refine aq.of (by simp) (by simp) (lk a n h) ?_;rintro _ _ ⟨m,_,_,rfl,n,p⟩;simp[-kX];refine aq.of (by simp) (by simp) (Aw a m.ok n p e.1 e.2 (by omega) q.den_nz) ?_;rintro _ o ⟨c,_,_,rfl,i,s⟩;have t:=m.trans c
 have j:∀{d:ad} {L:bb} {p:Value} {n:Nat},bh pm o d->bV d p n->n<4294967296^(k+1)->fs (decide (q<0)) n 1=(q.floor:Rat)->aK 3 L=some (.bool (decide (q<0)))->aK 6 L=some p->
  wp X pm (.code kX) L d [] λx k aa=>(x=.normal∨x=.ret)/\∃h,hU k aa [.slot 2]=some h/\(bh pm H aa/\fA aa (f' h) (q.floor:Rat)):=by
  intro d L p n h m n p k r;simp[k,r];refine aq.of (by simp) (by simp) (se a h.ok) ?_;rintro _ _ ⟨k,r⟩;simp;refine aq.of (by simp) (by simp) (sZ a k.ok (neg:=decide (q<0)) (m.u h.ok k) r n l (by omega) (by omega)) ?_;rintro _ _ ⟨m,n⟩;simp;rw[<-p];exact⟨(t.trans h).trans (k.trans m),n⟩
 by_cases b:q<0
 ·simp[b,-kX];refine aq.of (by simp) (by simp) (pW a s (cV (Nat.mod_le _ _) e.1) (by omega)) ?_;rintro _ o ⟨rfl,rfl⟩;by_cases e:q.num.natAbs%q.den=0
  ·simp[e,-kX];exact j (bh.refl c.ok) i (kg g (by omega)) (by simpa [b,e]using f) (by simp[b]) (by simp)
  ·simp[e,-kX];refine aq.of (by simp) (by simp) (se a c.ok) ?_;rintro _ d ⟨d,h⟩;simp[-kX];refine aq.of (by simp) (by simp) (zv a d.ok (i.u c.ok d) h (kg g (oo k)) l (by omega)) ?_;rintro _ _ ⟨a,h⟩;simp[-kX];refine j (d.trans a) h ?_ (by simpa [b,e]using f) (by simp[b]) (by simp);rw[dH];omega
 ·simp[b,-kX];refine aq.not (by simp) ?_;simp[-kX];exact j (bh.refl c.ok) i (kg g (by omega)) (by simpa [b]using f) (by simp[b]) (by simp)
end
end Go.Dam.C
namespace Go.Dam.C
open Go Go.Dam Go.RowKit
instance:bq:=⟨λ_=>True⟩
def s4:Array Value:=(Lib.pow10Tab.map λz=>Value.int .u64 z).toArray
def nF(w:World)(N:Nat->Prop)(b o:Nat)(l:List Value):Prop:=N b/\∃c e a,w.heap[b]? = some (.cells c e a)/\o+l.length<=c.size/\∀i v,l[i]? = some v->c[o+i]? = some v
def ru(w:World)(N:Nat->Prop)(s:Value)(al:List Nat):Prop:=
 c1 al/\((s=.slice none 0 0/\al=[])∨(∃a,s=.slice (some a) 0 0/\al=[])∨∃c o a,s=.slice (some ⟨c,o,none⟩) al.length a/\al.length<=a/\nF w N c o (bU al))
def p2(w:World)(N:Nat->Prop)(v:Value)(n:Nat):Prop:=
 (v=.pointer none/\n=0)∨∃b o s a,v=.pointer (some ⟨b,o,none⟩)/\nF w N b o [s]/\ru w N s a/\strip a=a/\ay a=n
def o5(w:World)(N:Nat->Prop)(v:Value)(q:Rat):Prop:=
 (v=.pointer none/\q=0)∨∃b o p d,v=.pointer (some ⟨b,o,none⟩)/\nF w N b o [.bool (decide (q<0)),p,d]/\p2 w N p q.num.natAbs/\p2 w N d q.den
section
variable{w ao:World}{N lj:Nat->Prop}
theorem nF.mono{b o:Nat}{l:List Value}(h:nF w N b o l)(g:∀c,N c->c<w.heap.size->lj c/\ao.heap[c]? = w.heap[c]?):nF ao lj b o l:=by
 obtain⟨b,c,e,d,a,f⟩:=h;obtain⟨i,j⟩:=g _ b (e'.1 a).1;exact⟨i,c,e,d,j.trans a,f⟩
theorem ru.mono{s:Value}{al:List Nat}(h:ru w N s al)(g:∀c,N c->c<w.heap.size->lj c/\ao.heap[c]? = w.heap[c]?):ru ao lj s al:=
 ⟨h.1,h.2.imp id (Or.imp id λ⟨c,o,a,b,d,e⟩=>⟨c,o,a,b,d,e.mono g⟩)⟩
theorem p2.mono{v:Value}{n:Nat}(h:p2 w N v n)(g:∀c,N c->c<w.heap.size->lj c/\ao.heap[c]? = w.heap[c]?):p2 ao lj v n:=
 h.imp id λ⟨b,o,s,a,c,d,e,f⟩=>⟨b,o,s,a,c,d.mono g,e.mono g,f⟩
theorem o5.mono{v:Value}{q:Rat}(h:o5 w N v q)(g:∀c,N c->c<w.heap.size->lj c/\ao.heap[c]? = w.heap[c]?):o5 ao lj v q:=
 h.imp id λ⟨b,o,p,d,a,e,f,i⟩=>⟨b,o,p,d,a,e.mono g,f.mono g,i.mono g⟩
end
def hZ:b0 where
 rel:=λw N b o=>o=.nat 0/\N b/\∃e a,w.heap[b]? = some (.cells s4 e a)
 qV:=λ⟨c,b,e,a,d⟩ h=>⟨c,(h _ b).1,e,a,((h _ b).2).trans d⟩
def fh:b0 where
 rel:=λw N b o=>match o with
  | .nat n=>n=0/\N b/\∃e a,w.heap[b]? = some (.cells s4 e a)
  | .gY q=>o5 w N (.pointer (some ⟨b,0,none⟩)) q
 qV:=λ{w _ N _ b o} h g=>by
  cases o with
  | nat _=>obtain⟨b,a,e,c,d⟩:=h;exact⟨b,(g _ a).1,e,c,((g _ a).2).trans d⟩
  | gY _=>exact o5.mono h λc a _=>g c a
structure In(O:b0)(N:Nat->Prop)(W:World)(γ:aL)(H:ad):Prop where
 rel:Rel O 0 γ H W
 ro:∀b,¬ev (H.get b)
 uk:∃L,γ 1=some L/\L.aW=1/\L.d=0
 dD:H.get 1=some (.cr (.nat 0))
 n:∀b L,γ b=some L->N L.aW
 zR:∃c e OC,W.heap[1]? = some (.cells c e OC)
def Ext(H aa:ad):Prop:=∀b y,H.get b=some y->aa.get b=some y
theorem Ext.refl(H:ad):Ext H H:=λ_ _ h=>h
theorem Ext.trans{H aa a:ad}(h:Ext H aa)(g:Ext aa a):Ext H a:=λb y e=>g b y (h b y e)
theorem cE.le{H aa:ad}{v:Value}{al:List Nat}(h:cE H v al)(a:Ext H aa):cE aa v al:=by
 refine⟨h.1,h.2.imp id ?_⟩;rintro⟨c,b,d,y,e,f,g,i⟩;exact⟨c,b,d,y,e,f,a _ _ g,i⟩
theorem bV.le{H aa:ad}{v:Value}{n:Nat}(h:bV H v n)(a:Ext H aa):bV aa v n:=⟨h.ex.imp λ_ q=>⟨q.1.imp id (by
 rintro⟨b,x,s,c,d,e,f⟩;exact⟨b,x,s,c,a _ _ d,e,f.le a⟩),q.2⟩⟩
theorem eY.le{H aa:ad}{v:Value}{q:Rat}(h:eY H v q)(a:Ext H aa):eY aa v q:=by
 refine⟨h.ex.imp id ?_⟩;rintro⟨b,x,c,d,e,f,g,i,j⟩;exact⟨b,x,c,d,e,a _ _ f,g,i.le a,j.le a⟩
section
variable{O:b0}{N:Nat->Prop}{W:World}{γ:aL}{H:ad}
def BZ:Dam.Loc:=⟨1,0,0,0⟩
def mi:aL:=λb=>if b=1 then some BZ else none
def vY:ad:=⟨(bG.ag:bG bk).set (.cr (.nat 0)) 1,2⟩
theorem kz{b:Nat}{L:Dam.Loc}(h:mi b=some L):b=1/\L=BZ:=by
 unfold mi at h;split at h
 ·simp only[ax]at h;exact⟨by assumption,h.symm⟩
 ·cases h
theorem qn(b:Nat):vY.get b=if b=1 then some (.cr (.nat 0)) else none:=by
 show((bG.ag:bG bk).set (.cr (.nat 0)) 1).get b=_;rw[bG.jw];by_cases h:b=1
 ·rw[aT h,aT h]
 ·rw[aC h,aC h];rfl
theorem Sj(c:∀N:Nat->Prop,N 1->O.rel W N 1 (.nat 0))(d:1<W.heap.size):Rel O 0 mi vY W:=by
 refine⟨λb L h=>?_,λb L h=>?_,λb h=>?_,λb _ L _ h _ r _ _=>?_,λb L h r=>?_,Nat.zero_le _⟩
 ·obtain⟨rfl,rfl⟩:=kz h;refine⟨.cr (.nat 0),by rw[qn,aT rfl],?_⟩;have a:fg mi vY W 1:=⟨d,λb L h r=>by
   obtain⟨rfl,_⟩:=kz h;rw[qn,aT rfl]at r;exact r.elim⟩
  exact⟨a,rfl,c _ a⟩
 ·obtain⟨rfl,_⟩:=kz h;show 1<2;omega
 ·rw[qn,aC];have:2<=b:=h;omega
 ·obtain⟨rfl,_⟩:=kz h;rw[qn,aT rfl]at r;exact r.elim
 ·obtain⟨rfl,_⟩:=kz h;rw[qn,aT rfl]at r;exact r.elim
theorem In.start(d:∀M:Nat->Prop,M 1->O.rel W M 1 (.nat 0)){c:Array Value}{e:TypeId}{a:Nat×Nat}(b:W.heap[1]? = some (.cells c e a))(f:N 1):In O N W mi vY:=
 ⟨Sj d (e'.1 b).1,λg h=>by rw[qn]at h;split at h<;>exact h.elim,⟨BZ,rfl,rfl,rfl⟩,by rw[qn,aT rfl],λg _ h=>by obtain⟨_,rfl⟩:=kz h;exact f,c,e,a,b⟩
theorem In.add(h:In O N W γ H){l aN:List Value}{b o:Nat}(i:nF W N b o aN)(n:br γ l aN):
 In O N W (γ.set H.next ⟨b,o,0,0⟩) (H.new (.ro l))/\γ.le (γ.set H.next ⟨b,o,0,0⟩)/\Ext H (H.new (.ro l)):=by
 obtain⟨s,d,t,u,i,v,g⟩:=i;have j:=h.rel.IK ⟨b,o,0,0⟩;have w:H.get H.next=none:=h.rel.new _ (bg _);have f:∀b,(H.new (.ro l)).get b=if b=H.next then some (.ro l) else H.get b:=λb=>ad.jZ H b _
 have k:∀b,¬ev ((H.new (.ro l)).get b):=λb=>by
  rw[f];split
  ·exact λh=>h.elim
  ·exact h.ro b
 have p:∀d,d<W.heap.size->fg (γ.set H.next ⟨b,o,0,0⟩) (H.new (.ro l)) W d:=λd g=>⟨g,λb L _ r=>(k b r).elim⟩;obtain⟨x,q,y,z⟩:=h.uk;have m:(1:Nat)≠H.next:=λe=>by have:=h.rel.lt 1 _ q;omega
 refine⟨⟨⟨λc L a=>?_,λc L a=>?_,λc a=>?_,λb _ _ _ _ _ r _ _=>(k b r).elim,λb _ _ r=>(k b r).elim,Nat.zero_le _⟩,k,⟨x,j _ _ q,y,z⟩,?_,λc L a=>?_,h.zR⟩,j,λb _ e=>?_⟩
 ·by_cases e:c=H.next
  ·subst e;rw[aL.fa]at a;cases a;refine⟨.ro l,by rw[f,aT rfl],p _ (e'.1 i).1,d,t,u,i,rfl,by rw[n.length];exact v,λi _ e=>?_⟩;obtain⟨b,h,r⟩:=n.get e;exact⟨b,g i b h,r.mono j⟩
  ·rw[aL.fZ _ _ e]at a;obtain⟨x,m,b⟩:=h.rel.aW c L a;exact⟨x,by rw[f,aC e];exact m,b.mono j (λd g=>⟨p d g.1,rfl⟩) (λ_=>rfl)⟩
 ·show c<H.next+1;by_cases e:c=H.next
  ·omega
  ·rw[aL.fZ _ _ e]at a;have:=h.rel.lt c L a;omega
 ·have a:H.next+1<=c:=a;rw[f,aC (by omega)];exact h.rel.new c (by omega)
 ·rw[f,aC m];exact h.dD
 ·by_cases e:c=H.next
  ·subst e;rw[aL.fa]at a;cases a;exact s
  ·rw[aL.fZ _ _ e]at a;exact h.n c L a
 ·rw[f,aC]
  ·exact e
  ·rintro rfl;rw[w]at e;cases e
theorem TK(al:List Nat):br γ (bU al) (bU al):=br.oc rfl λi _ _ a b=>by
 rw[a]at b;cases b;simp only[bU,iw]at a
 cases e:al[i]? with
 | none=>rw[e]at a;cases a
 | some _=>rw[e]at a;simp only[gL,ax]at a;subst a;exact .int _ _
theorem In.N1(h:In O N W γ H){s:Value}{al:List Nat}(g:ru W N s al):∃a aa d,In O N W a aa/\γ.le a/\Ext H aa/\aD a d s/\cE aa d al:=by
 obtain⟨e,⟨rfl,rfl⟩ | ⟨_,rfl,rfl⟩ | ⟨c,o,cap,rfl,f,i⟩⟩:=g
 ·exact⟨γ,H,_,h,.refl _,.refl _,.pM,cE.nil⟩
 ·obtain⟨L,d,g,_⟩:=h.uk;have a:=h.n 1 L d;rw[g]at a;obtain⟨c,d,g,j⟩:=h.zR;obtain⟨k,m,n⟩:=h.add (l:=[]) (aN:=[]) (b:=1) (o:=0) ⟨a,c,d,g,j,by simp,by simp⟩ .nil;exact⟨_,_,.slice (some ⟨H.next,0,none⟩) 0 0,k,m,n,.ks (aL.fa _ _ _),e,.inr ⟨H.next,0,0,_,[],rfl,b4,.inr rfl,rfl,by simp,by simp,trivial⟩⟩
 ·obtain⟨a,d,g⟩:=h.add (l:=bU al) i (TK al);refine⟨_,_,.slice (some ⟨H.next,0,none⟩) al.length cap,a,d,g,?_,e,.inr ⟨H.next,0,cap,_,bU al,rfl,b4,.inr rfl,by rw[List.drop_zero];exact mZ (by simp[bU]),by simp[bU],f,trivial⟩⟩;have:=aD.fb (γ:=γ.set H.next ⟨c,o,0,0⟩) (b:=H.next) (off:=0) (n:=al.length) (cap:=cap) (cG:=cap) (L:=⟨c,o,0,0⟩) (aL.fa _ _ _) (bg _) f (.inl rfl);simpa using this
theorem Cq{c o:Nat}:aD (γ.set H.next ⟨c,o,0,0⟩) (.pointer (some ⟨H.next,0,none⟩)) (.pointer (some ⟨c,o,none⟩)):=by
 have:=aD.ptr (γ:=γ.set H.next ⟨c,o,0,0⟩) (b:=H.next) (off:=0) (L:=⟨c,o,0,0⟩) (aL.fa _ _ _);simpa using this
theorem In.nat(h:In O N W γ H){v:Value}{n:Nat}(c:p2 W N v n):∃a aa p,In O N W a aa/\γ.le a/\Ext H aa/\aD a p v/\bV aa p n:=by
 obtain⟨rfl,rfl⟩ | ⟨_,_,_,d,rfl,e,f,g,i⟩:=c
 ·exact⟨γ,H,_,h,.refl _,.refl _,.uQ,⟨[],.inl ⟨rfl,rfl⟩,rfl,rfl⟩⟩
 ·obtain⟨_,c,a,j,k,m,n,o⟩:=h.N1 f;obtain⟨f,p,b⟩:=j.add (l:=[a]) e (.cons n .nil);exact⟨_,_,_,f,k.trans p,m.trans b,Cq,⟨d,.inr ⟨c.next,_,a,rfl,b4,⟨rfl,rfl⟩,o.le b⟩,g,i⟩⟩
theorem In.gY(h:In O N W γ H){v:Value}{q:Rat}(a:o5 W N v q):∃b aa p,In O N W b aa/\γ.le b/\Ext H aa/\aD b p v/\eY aa p q:=by
 obtain⟨rfl,rfl⟩ | ⟨_,_,p,_,rfl,g,d,a⟩:=a
 ·exact⟨γ,H,_,h,.refl _,.refl _,.uQ,⟨.inl ⟨rfl,rfl⟩⟩⟩
 ·obtain⟨_,_,b,i,j,k,m,n⟩:=h.nat d;obtain⟨_,o,d,p,e,f,r,s⟩:=i.nat a;obtain⟨a,i,c⟩:=p.add (l:=[.bool (decide (q<0)),b,d]) g (.cons (.bool _) (.cons (m.mono e) (.cons r .nil)));exact⟨_,_,_,a,(j.trans e).trans i,(k.trans f).trans c,Cq,⟨.inr ⟨o.next,_,b,d,rfl,b4,⟨rfl,rfl⟩,n.le (f.trans c),s.le c⟩⟩⟩
end
section
variable{O:b0}{base:Nat}{N:Nat->Prop}{w:World}{γ:aL}{H:ad}
theorem Sp(d:Rel O base γ H w)(e:∀b L,γ b=some L->N L.aW){b:Nat}{L:Dam.Loc}{x:bk}{row:List Value}(c:γ b=some L)(f:H.get b=some x)(g:rowOf x=some row){off:Nat}{l aN:List Value}
 (b:(row.drop off).take l.length=l) (h:off+l.length<=row.length) (h:∀(i:Nat) (v aH:Value),l[i]? = some v->aD γ v aH->aN[i]? = some aH) (j:aN.length=l.length):nF w N L.aW (L.d+off) aN:=by
 obtain⟨j,k,m,n,_,o⟩:=d.row c f g;refine⟨e _ _ c,j,k,m,n,by omega,λi v a=>?_⟩;have c:=(je.1 a).1;have c:row[off+i]? = some (l[i]'(by omega)):=by
  have:=congrArg (·[i]?) b;simp only[kZ (show i<l.length by omega),ki]at this;rw[this,eu]
 obtain⟨aH,p,b⟩:=o _ _ c;have:=h i _ aH (eu (by omega)) b;rw[this]at a;cases a;rw[l1];exact p
theorem cE.out(f:Rel O base γ H w)(g:∀b L,γ b=some L->N L.aW){s c:Value}{al:List Nat}(h:cE H s al)(d:aD γ s c):ru w N c al:=by
 obtain⟨a,⟨rfl,rfl⟩ | ⟨_,i,_,_,_,rfl,j,k,m,_,_,_⟩⟩:=h
 ·cases d;exact⟨a,.inl ⟨rfl,rfl⟩⟩
 ·obtain⟨L,h,_,_,⟨n,rfl,_,_⟩ | ⟨o,_,p,rfl⟩⟩:=d.l8
  ·have q:(bU al).length=al.length:=by simp[bU]
   refine⟨a,.inr (.inr ⟨L.aW,L.d+i,n,rfl,by omega,Sp f g h j k.row (l:=bU al) (by rw[q];exact m) (by omega) (λr _ _ e s=>?_) rfl⟩)⟩;rw[e];simp only[bU,iw]at e
   cases b:al[r]? with
   | none=>rw[b]at e;cases e
   | some _=>rw[b]at e;simp only[gL,ax]at e;subst e;rw[s.U]
  ·exact⟨a,.inr (.inl ⟨p,rfl,Cy o⟩)⟩
theorem bV.LL(c:Rel O base γ H w)(d:∀b L,γ b=some L->N L.aW){v aH:Value}{n:Nat}(h:bV H v n)(e:aD γ v aH):p2 w N aH n:=by
 obtain⟨g,⟨rfl,rfl⟩ | ⟨b,_,s,rfl,j,k,l⟩,m,f⟩:=h.ex
 ·cases e;exact .inl ⟨rfl,f.symm⟩
 ·obtain⟨L,b,_,rfl⟩:=e.jA;obtain⟨h,n,o,p,q,e⟩:=c.row b j k.1;obtain⟨r,t,u⟩:=e 0 s rfl;refine .inr ⟨L.aW,L.d+0,r,g,rfl,⟨d _ _ b,h,n,o,p,by simpa using q,λi _ a=>?_⟩,l.out c d u,m,f⟩
  cases i with
  | zero=>simp at a;subst a;exact t
  | succ i=>simp at a
theorem fA.out(d:Rel O base γ H w)(e:∀b L,γ b=some L->N L.aW){v aH:Value}{q:Rat}(h:fA H v q)(s:aD γ v aH):∃c L b,aH=.pointer (some ⟨c,0,none⟩)/\γ b=some L/\L.aW=c/\ev (H.get b)/\o5 w N aH q:=by
 obtain⟨h,b,_,_,rfl,f⟩:=h;obtain⟨g,_⟩ | ⟨b,_,_,_,g,m,t,u,v⟩:=h.ex
 ·cases g
 cases g;rw[f]at m;cases m;have n:=t.1;simp only[rowOf,ax]at n;subst n;obtain⟨L,i,_,rfl⟩:=s.jA;obtain⟨_,o,w⟩:=d.aW b L i;rw[f]at o;cases o;obtain⟨c,x,y,z,_,⟨_,_,A,j⟩,_,_,k⟩:=w;obtain⟨_,l,B⟩:=k 0 _ rfl;obtain⟨C,p,D⟩:=k 1 _ rfl;obtain⟨E,q,F⟩:=k 2 _ rfl;rw[B.jP]at l;simp only[A,Nat.zero_add]at l p q|-;refine⟨L.aW,L,b,rfl,i,rfl,by rw[f];trivial,.inr ⟨L.aW,0,C,E,rfl,⟨e _ _ i,c,x,y,z,by have j:c.size=3:=j;simp[j],λr _ a=>?_⟩,u.LL d e D,v.LL d e F⟩⟩;rw[Nat.zero_add]
 rcases r with _ | _ | _ | r
 ·simp at a;subst a;exact l
 ·simp at a;subst a;exact p
 ·simp at a;subst a;exact q
 ·simp at a
end
end Go.Dam.C
namespace Go.Dam.C
open Go Go.Dam
theorem S8{p q:Rat}{k:Nat}(a:aS p k)(b:aS q k):aS (p+q) (2*k+1):=by
 have e:p+q=mkRat (p.num*q.den+q.num*p.den) (p.den*q.den):=Rat.add_def' p q;have c:p.den*q.den≠0:=pA p.den_nz q.den_nz;rw[e,<-uV c,u2];refine⟨cV (uT _ _) ?_,cV (kk _ _) (kg (jz a.2 b.2) (by omega))⟩;refine cV (Int.natAbs_add_le _ _) ?_;rw[oy,oy];exact xV (jz a.1 b.2) (jz b.1 a.2)
theorem S9{p q:Rat}{k:Nat}(a:aS p k)(b:aS q k):aS (p*q) (2*k):=by
 have e:p*q=mkRat (p.num*q.num) (p.den*q.den):=Rat.mul_def' p q;have c:p.den*q.den≠0:=pA p.den_nz q.den_nz;rw[e,<-uV c,u2];refine⟨cV (uT _ _) ?_,cV (kk _ _) (jz a.2 b.2)⟩;rw[oy];exact jz a.1 b.1
theorem Ll{q:Rat}{k:Nat}(a:aS q k)(b:q≠0):aS (1/q) k:=by
 rw[H9 b];simp only[Rat.num_ofNat,Rat.den_ofNat];have c:q.num.natAbs≠0:=λ_=>b (Rat.num_eq_zero.1 (by omega));refine Lm ?_ ?_ ?_
 ·simpa using a.2
 ·simpa using a.1
 ·simpa using c
theorem en{q:Rat}{k j:Nat}(a:aS q k)(h:k<=j):aS q j:=⟨kg a.1 h,kg a.2 h⟩
theorem s3{p q:Rat}{k:Nat}(a:aS p k)(b:aS q k):aS (p-q) (2*k+1):=by rw[Rat.sub_eq_add_neg];exact S8 a (oF b)
theorem yG{p q:Rat}{k:Nat}(a:aS p k)(b:aS q k)(c:q≠0):aS (p/q) (2*k):=by
 have:p/q=p*(1/q):=by grind
 rw[this];exact S9 a (Ll b c)
theorem s0{p q:Rat}{a b:Nat}(c:aS p a)(d:aS q b):aS (p+q) (a+b+1):=by
 have f:p+q=mkRat (p.num*q.den+q.num*p.den) (p.den*q.den):=Rat.add_def' p q;have g:p.den*q.den≠0:=pA p.den_nz q.den_nz;have a:=sI c.1 d.2;have b:=sI c.2 d.1;have e:=sI c.2 d.2;rw[<-fH]at a b e;rw[f,<-uV g,u2];refine⟨cV (uT _ _) ?_,cV (kk _ _) (kg e (by omega))⟩;refine cV (Int.natAbs_add_le _ _) ?_;rw[oy,oy];refine xV a ?_;rw[dW];exact b
theorem kt{p q:Rat}{a b:Nat}(c:aS p a)(d:aS q b):aS (p*q) (a+b):=by
 have e:p*q=mkRat (p.num*q.num) (p.den*q.den):=Rat.mul_def' p q;have a:p.den*q.den≠0:=pA p.den_nz q.den_nz;rw[e,<-uV a,u2,aS,fH];refine⟨cV (uT _ _) ?_,cV (kk _ _) (sI c.2 d.2)⟩;rw[oy];exact sI c.1 d.1
theorem S'{p q:Rat}{a b:Nat}(c:aS p a)(d:aS q b):aS (p-q) (a+b+1):=by rw[Rat.sub_eq_add_neg];exact s0 c (oF d)
theorem pR{k:Nat}(a:1<=k):aS 0 k:=by
 have:4294967296^1<=4294967296^k:=fX (by decide) a;exact⟨by show 0<_;omega,by show 1<_;omega⟩
def fo:Nat:=60000000
def r3(n k:Nat):Bool:=Nat.blt n.log2 (32*k)
theorem IW{n k:Nat}(h:r3 n k=true)(_:1<=k):n<4294967296^k:=by
 unfold r3 at h;rw[fG,df]at h;rw[show(4294967296:Nat)=2^32 from rfl,<-mY];by_cases a:n=0
 ·subst a;exact qN (by decide)
 ·exact(Nat.log2_lt a).1 h
theorem IP{n k:Nat}(h:n<4294967296^k)(b:1<=k):r3 n k=true:=by
 unfold r3;rw[fG,df];by_cases a:n=0
 ·subst a;simp;omega
 ·rw[Nat.log2_lt a,mY];exact h
def bw(q:Rat):Bool:=r3 q.num.natAbs fo&&r3 q.den fo
theorem bw.aS{q:Rat}(h:bw q=true):aS q fo:=by
 unfold bw at h;rw[b3]at h;exact⟨IW h.1 (by decide),IW h.2 (by decide)⟩
theorem aS.bw{q:Rat}{k:Nat}(h:aS q k)(a:k<=fo):bw q=true:=by
 have h:=en h a;unfold C.bw;rw[b3];exact⟨IP h.1 (by decide),IP h.2 (by decide)⟩
end Go.Dam.C
namespace Go.Dam.C
open Go Go.Dam
def n1(H:ad)(v:Value):Option Rat:=match v with
 | .pointer none=>some 0
 | .pointer (some ⟨b,0,none⟩)=>(match H.get b with
   | some (.cr (.gY q))=>some q
   | _=>none)
 | _=>none
inductive fl where
 | cB (q:Rat)
 | val (v:Value)
 | no
 | yes (q:Rat)
def fl.out(H:ad):fl->Value×ad
 | .cB q=>(.pointer (some ⟨H.next,0,none⟩),H.new (.cr (.gY q)))
 | .val v=>(v,H)
 | .no=>(.tuple #[.pointer none,.bool false],H)
 | .yes q=>(.tuple #[.pointer (some ⟨H.next,0,none⟩),.bool true],H.new (.cr (.gY q)))
def cL(r:List Value->ad->Option fl):o1:=λ_ a H=>bif j0 H then(match r a H with
 | some r=>some (r.out H)
 | none=>none) else none
def nf(f:Rat->fl)(args:List Value)(H:ad):Option fl:=match args with
 | [a]=>(match n1 H a with
   | some p=>bif bw p then some (f p) else none
   | none=>none)
 | _=>none
def k5(f:Rat->Rat->fl)(args:List Value)(H:ad):Option fl:=match args with
 | [a,b]=>(match n1 H a with
   | some p=>(match n1 H b with
     | some q=>bif bw p&&bw q then some (f p q) else none
     | none=>none)
   | none=>none)
 | _=>none
def lx(p q:Rat):Int:=if p<q then -1 else if p=q then 0 else 1
def ck(q:Rat):Int:=if q<0 then -1 else if q=0 then 0 else 1
def vb(args:List Value)(_:ad):Option fl:=match args with
 | [.int .i64 n]=>bif decide (-9223372036854775808<=n)&&decide (n<=9223372036854775807) then some (.cB (n:Rat)) else none
 | _=>none
def sL(args:List Value)(_:ad):Option fl:=match args with
 | [.string s]=>bif Nat.blt s.size 1000000 then some (match gH s.data.toList with
   | some q=>.yes q
   | none=>.no) else none
 | _=>none
def x':=k5 λp q=>.cB (p+q)
def yf:=k5 λp q=>.cB (p-q)
def yc:=k5 λp q=>.cB (p*q)
def yb:=k5 λp q=>if q=0 then .no else .yes (p/q)
def ya:=k5 λp q=>.val (.int .i64 (lx p q))
def yd:=nf λq=>.cB (-q)
def ye:=nf λq=>.val (.int .i64 (ck q))
def CJ:=nf λq=>.cB (q.floor:Rat)
def CK:=nf λq=>.val (.bool (decide (q.den=1)))
def yg:=nf λq=>.val (aA (cZ q))
structure zg(X:ar):Prop where
 Ju:X.eS F.fW=some (cL vb)
 BS:X.eS F.hQ=some (cL sL)
 Jp:X.eS F.gq=some (cL x')
 Jw:X.eS F.ik=some (cL yf)
 Js:X.eS F.fV=some (cL yc)
 Jr:X.eS F.jc=some (cL yb)
 Jq:X.eS F.gJ=some (cL ya)
 Jt:X.eS F.ij=some (cL yd)
 Jv:X.eS F.dY=some (cL ye)
 QO:X.eS F.mU=some (cL CJ)
 QP:X.eS F.lT=some (cL CK)
 Jx:X.eS F.hy=some (cL yg)
structure bs(pm:Perm)(H:ad):Prop extends bR pm H where
 dD:Tab H
structure aF(pm:Perm)(n:Nat)(H aa:ad):Prop where
 h:bs pm aa
 next:H.next<=aa.next
 get:∀b,b<n->aa.get b=H.get b
 cr:∀b o,H.get b=some (.cr o)->aa.get b=some (.cr o)
abbrev K(pm:Perm)(H aa:ad):Prop:=aF pm H.next H aa
variable{X:ar}{pm dC:Perm}{H aa bL aj:ad}{n m:Nat}
theorem bs.lt(g:bs pm H){b:Nat}{x:bk}(e:H.get b=some x):b<H.next:=g.tobR.lt e
theorem bs.may(g:bs pm H){b:Nat}(h:H.next<=b):pm.may b=true:=g.tobR.may h
theorem bs.perm(g:bs pm H)(a:dC.num=none)(b:dC.ah<=H.next):bs dC H:=⟨⟨a,b,g.wf,g.new⟩,g.dD⟩
theorem bs.make(g:bs pm H)(a:ad)(x:bk):pm.make a x=a.new x:=g.tobR.make a x
theorem bs.pick(g:bs pm H)(a:ad):pm.pick a=a.next:=g.tobR.pick a
theorem aF.refl(g:bs pm H):aF pm n H H:=⟨g,bg _,λ_ _=>rfl,λ_ _ h=>h⟩
theorem aF.mono(u:aF pm n H aa)(h:m<=n):aF pm m H aa:=⟨u.h,u.next,λb a=>u.get b (eC a h),u.cr⟩
theorem aF.trans(u:aF pm n H aa)(v:aF pm n aa bL):aF pm n H bL:=⟨v.h,aY u.next v.next,λb a=>(v.get b a).trans (u.get b a),λb o h=>v.cr b o (u.cr b o h)⟩
theorem aF.k(u:aF pm n H aa)(v:K pm aa bL)(h:n<=aa.next):aF pm n H bL:=u.trans (v.mono h)
theorem K.trans(u:K pm H aa)(v:K pm aa bL):K pm H bL:=aF.k u v u.next
theorem aF.perm(u:aF pm n H aa)(a:dC.num=none)(b:dC.ah<=aa.next):aF dC n H aa:=⟨u.h.perm a b,u.next,u.get,u.cr⟩
theorem K.refl(g:bs pm H):K pm H H:=aF.refl g
theorem K.some(k:K pm H aa)(g:bs pm H){b:Nat}{x:bk}(e:H.get b=some x):aa.get b=some x:=(k.get b (g.lt e)).trans e
theorem aF.new(u:aF pm n H aa)(h:n<=aa.next)(x:bk):aF pm n H (aa.new x) where
 h:=⟨⟨u.h.num,aY u.h.ah (oo _),λb a=>by
  have a:aa.next+1<=b:=a;rw[ad.jZ,aC (by omega)];exact u.h.wf b (by omega),λb a=>trivial⟩,by
  have:=u.h.lt u.h.dD;show(aa.new x).get 1=_;rw[ad.jZ,aC (by omega)];exact u.h.dD⟩
 next:=aY u.next (oo _)
 get:=λb a=>by rw[ad.jZ,aC (by omega)];exact u.get b a
 cr:=λb o e=>by
  have e:=u.cr b o e;have:=u.h.lt e;rw[ad.jZ,aC (by omega)];exact e
theorem K.new(g:bs pm H)(x:bk):K pm H (H.new x):=aF.new (.refl g) (bg _) x
theorem aF.put(u:aF pm n H aa){c:Nat}{y:bk}(h:n<=c)(d:aa.get c=some y)(f:∀o,y≠.cr o)(x:bk):aF pm n H (aa.put c x) where
 h:=⟨⟨u.h.num,u.h.ah,λb a=>by
  have a:aa.next<=b:=a;have:=u.h.lt d;rw[ad.O,aC (by omega)];exact u.h.wf b a,λb a=>trivial⟩,by
  show(aa.put c x).get 1=_;rw[ad.O,aC]
  ·exact u.h.dD
  ·rintro rfl;rw[u.h.dD]at d;cases d;exact f _ rfl⟩
 next:=u.next
 get:=λb a=>by rw[ad.O,aC (by omega)];exact u.get b a
 cr:=λb o e=>by
  have e:=u.cr b o e;rw[ad.O,aC]
  ·exact e
  ·rintro rfl;rw[e]at d;cases d;exact f _ rfl
theorem aF.up(u:aF pm n H aa)(k:Nat):aF pm n H (aa.up k) where
 h:=⟨⟨u.h.num,aY u.h.ah (e9 _ _),λb a=>u.h.wf b (aY (e9 _ _) a),λ_ _=>trivial⟩,u.h.dD⟩
 next:=aY u.next (e9 _ _)
 get:=u.get
 cr:=u.cr
def b9(H:ad)(v:Value)(q:Rat):Prop:=∃b,v=.pointer (some ⟨b,0,none⟩)/\H.get b=some (.cr (.gY q))
theorem b9.up{v:Value}{q:Rat}(h:b9 H v q)(u:aF pm n H aa):b9 aa v q:=let ⟨b,a,c⟩:=h;⟨b,a,u.cr b _ c⟩
theorem b9.of{v:Value}{q:Rat}(h:b9 H v q):n1 H v=some q:=by
 obtain⟨_,rfl,a⟩:=h;simp only[n1,a]
theorem kL(h:Tab H):j0 H=true:=by unfold j0;rw[h];rfl
theorem b9.new{q:Rat}:b9 (H.new (.cr (.gY q))) (.pointer (some ⟨H.next,0,none⟩)) q:=⟨_,rfl,b4⟩
section
variable(fr:zg X)(g:bs pm H){v w:Value}{p q:Rat}(bX:n1 H v=some p)(cv:n1 H w=some q)(s1:bw p=true)(s2:bw q=true)
include g fr
theorem o0{n:Int}(a:-9223372036854775808<=n)(bX:n<=9223372036854775807):Call X pm F.fW [.int .i64 n] H λr aa=>K pm H aa/\b9 aa r (n:Rat):=
 Call.over fr.Ju (v:=.pointer (some ⟨H.next,0,none⟩)) (aa:=H.new (.cr (.gY n))) (by simp[cL,kL g.dD,vb,a,bX,fl.out]) ⟨K.new g _,.new⟩
theorem vX{l:List UInt8}(a:l.length<1000000):Call X pm F.hQ [aA l] H λr aa=>K pm H aa/\(gH l=none/\r=.tuple #[.pointer none,.bool false]∨∃q p,gH l=some q/\r=.tuple #[p,.bool true]/\b9 aa p q):=by
 cases e:gH l with
 | none=>exact Call.over fr.BS (v:=.tuple #[.pointer none,.bool false]) (aa:=H) (by simp[cL,kL g.dD,sL,e,a,fl.out,fG]) ⟨K.refl g,.inl ⟨rfl,rfl⟩⟩
 | some q=>exact Call.over fr.BS (v:=.tuple #[.pointer (some ⟨H.next,0,none⟩),.bool true]) (aa:=H.new (.cr (.gY q))) (by simp[cL,kL g.dD,sL,e,a,fl.out,fG]) ⟨K.new g _,.inr ⟨q,_,rfl,rfl,.new⟩⟩
include bX s1
theorem wa:Call X pm F.ij [v] H λr aa=>K pm H aa/\b9 aa r (-p):=
 Call.over fr.Jt (v:=.pointer (some ⟨H.next,0,none⟩)) (aa:=H.new (.cr (.gY (-p)))) (by simp[cL,kL g.dD,yd,C.nf,bX,s1,fl.out]) ⟨K.new g _,.new⟩
theorem jr:Call X pm F.dY [v] H λr aa=>aa=H/\r=.int .i64 (ck p):=
 Call.over fr.Jv (v:=.int .i64 (ck p)) (aa:=H) (by simp[cL,kL g.dD,ye,C.nf,bX,s1,fl.out]) ⟨rfl,rfl⟩
theorem tv:Call X pm F.hy [v] H λr aa=>aa=H/\r=aA (cZ p):=
 Call.over fr.Jx (v:=aA (cZ p)) (aa:=H) (by simp[cL,kL g.dD,yg,C.nf,bX,s1,fl.out]) ⟨rfl,rfl⟩
include cv s2
theorem q5:Call X pm F.gq [v,w] H λr aa=>K pm H aa/\b9 aa r (p+q):=
 Call.over fr.Jp (v:=.pointer (some ⟨H.next,0,none⟩)) (aa:=H.new (.cr (.gY (p+q)))) (by simp[cL,kL g.dD,x',C.k5,bX,cv,s1,s2,fl.out]) ⟨K.new g _,.new⟩
theorem zp:Call X pm F.ik [v,w] H λr aa=>K pm H aa/\b9 aa r (p-q):=
 Call.over fr.Jw (v:=.pointer (some ⟨H.next,0,none⟩)) (aa:=H.new (.cr (.gY (p-q)))) (by simp[cL,kL g.dD,yf,C.k5,bX,cv,s1,s2,fl.out]) ⟨K.new g _,.new⟩
theorem pY:Call X pm F.fV [v,w] H λr aa=>K pm H aa/\b9 aa r (p*q):=
 Call.over fr.Js (v:=.pointer (some ⟨H.next,0,none⟩)) (aa:=H.new (.cr (.gY (p*q)))) (by simp[cL,kL g.dD,yc,C.k5,bX,cv,s1,s2,fl.out]) ⟨K.new g _,.new⟩
theorem vT(a:q≠0):Call X pm F.jc [v,w] H λr aa=>K pm H aa/\∃x,r=.tuple #[x,.bool true]/\b9 aa x (p/q):=
 Call.over fr.Jr (v:=.tuple #[.pointer (some ⟨H.next,0,none⟩),.bool true]) (aa:=H.new (.cr (.gY (p/q)))) (by simp[cL,kL g.dD,yb,C.k5,bX,cv,s1,s2,a,fl.out]) ⟨K.new g _,_,rfl,.new⟩
theorem q8:Call X pm F.gJ [v,w] H λr aa=>aa=H/\r=.int .i64 (lx p q):=
 Call.over fr.Jq (v:=.int .i64 (lx p q)) (aa:=H) (by simp[cL,kL g.dD,ya,C.k5,bX,cv,s1,s2,fl.out]) ⟨rfl,rfl⟩
end
end Go.Dam.C
namespace Go.Dam.C
open Go Go.Dam Go.RowKit
def fl.post:fl->Value->ad->Prop
 | .cB q,v,H=>fA H v q
 | .val u,v,_=>v=u/\plainCell u=true
 | .no,v,_=>v=.tuple #[.pointer none,.bool false]
 | .yes q,v,H=>∃p,v=.tuple #[p,.bool true]/\fA H p q
theorem RT{γ:aL}{v aH:Value}(h:aD γ v aH)(a:plainCell v=true):aH=v:=by
 cases h<;>first | rfl | (simp[plainCell]at a)
theorem HW{H:ad}(h:j0 H=true):H.get 1=some (.cr (.nat 0)):=by
 unfold j0 at h;split at h
 ·assumption
 ·cases h
theorem AM{c:Nat}{γ:aL}{H:ad}{w:World}(d:Rel fh c γ H w){a bF:Value}{p:Rat}(h:n1 H a=some p)(b:aD γ a bF):o5 w (fg γ H w) bF p:=by
 unfold n1 at h;split at h
 ·cases b;simp only[ax]at h;exact .inl ⟨rfl,h.symm⟩
 ·rename_i e;split at h
  ·rename_i _ f;obtain⟨L,g,_,rfl⟩:=b.jA;obtain⟨_,a,i⟩:=d.aW e L g;rw[f]at a;cases a;obtain⟨_,j,k⟩:=i;simp only[ax]at h;subst h;simp only[j];exact k
  ·cases h
 ·cases h
theorem Step.cr{O:b0}{p:Nat}{pm:Perm}{γ:aL}{H:ad}{w ao:World}(f:Rel O p γ H w)(e:Below w.heap.size w ao){o:wc}{c:Nat}(i:w.heap.size<=c)(u:c<ao.heap.size)
 (v:O.rel ao (λb=>b<ao.heap.size/\(fg γ H w b∨w.heap.size<=b)) c o):Step O p pm γ H w (γ.set H.next ⟨c,0,0,0⟩) (H.new (.cr o)) ao:=by
 have q:=f.IK ⟨c,0,0,0⟩;have k:∀c,c<w.heap.size->ao.heap[c]? = w.heap[c]?:=e.block;have x:∀b L,γ b=some L->ev (H.get b)->L.aW<w.heap.size:=λb L h r=>by
  obtain⟨_,a,d⟩:=f.aW b L h;rw[a]at r;exact d.lt r
 have g:∀b,(H.new (.cr o)).get b=if b=H.next then some (.cr o) else H.get b:=λb=>ad.jZ H b _
 have j:∀b L,γ.set H.next ⟨c,0,0,0⟩ b=some L->ev ((H.new (.cr o)).get b)->γ b=some L/\ev (H.get b):=λb L h r=>by
  rw[g]at r;by_cases c:b=H.next
  ·rw[aT c]at r;exact r.elim
  ·rw[aL.fZ _ _ c]at h;rw[aC c]at r;exact⟨h,r⟩
 have l:∀b,(b<ao.heap.size/\(fg γ H w b∨w.heap.size<=b))->fg (γ.set H.next ⟨c,0,0,0⟩) (H.new (.cr o)) ao b:=λb ⟨a,d⟩=>⟨a,λm L h r=>by
  obtain⟨b,c⟩:=j m L h r
  rcases d with d | d
  ·exact d.2 m L b c
  ·have:=x m L b c;omega⟩
 have y:∀b,fg γ H w b->fg (γ.set H.next ⟨c,0,0,0⟩) (H.new (.cr o)) ao b/\ao.heap[b]? = w.heap[b]?:=λb h=>⟨l b ⟨eC h.1 e.size,.inl h⟩,k b h.1⟩;refine⟨⟨λb L h=>?_,λb L h=>?_,λb h=>?_,λb s L t h z r A B=>?_,λb L h r=>?_,aY f.size e.size⟩,q,λb L a d=>?_,e.size,λc i _=>k c i,oo _,λb e _=>?_,λb L h r=>?_,λb L a d=>?_,e.os,e.tape,e.output⟩
 ·rw[g];by_cases n:b=H.next
  ·subst n;rw[aL.fa]at h;cases h;rw[aT rfl];exact⟨_,rfl,l c ⟨u,.inr i⟩,rfl,O.qV v λb e=>⟨l b e,rfl⟩⟩
  ·rw[aL.fZ _ _ n]at h;obtain⟨x,a,d⟩:=f.aW b L h;rw[aC n];exact⟨x,a,d.mono q y λr=>k _ (d.lt r)⟩
 ·show b<H.next+1;by_cases e:b=H.next
  ·omega
  ·rw[aL.fZ _ _ e]at h;have:=f.lt b L h;omega
 ·have h:H.next+1<=b:=h;rw[g,aC (by omega)];exact f.new b (by omega)
 ·obtain⟨c,e⟩:=j b L h r;obtain⟨k,l⟩:=j s t z A;exact f.inj b s L t c k e l B
 ·obtain⟨c,e⟩:=j b L h r;exact f.low b L c e
 ·by_cases c:b=H.next
  ·subst c;rw[aL.fa]at a;cases a;exact .inl i
  ·rw[aL.fZ _ _ c,d]at a;cases a
 ·rw[g,aC (by omega)]
 ·have:=f.lt b L h;rw[g,aC (by omega)]at r;exact r
 ·by_cases e:b=H.next
  ·exact .inl (by omega)
  ·rw[aL.fZ _ _ e,d]at a;cases a
section
variable{P:Program}{G:Nat->Bool}{X:ar}
theorem N4(i:∀g,G g=true->g=1)(j:∀m d,dK hZ P G (X.K m d)){N:Nat->Prop}{W:World}{γ:aL}{H:ad}(h:In hZ N W γ H){f:FuncId}{args:List Value}{fm:Array Value}{R:Value->ad->Prop}(e:Call X ⟨0,[],none⟩ f args H R)(k:br γ args fm.toList):
 ml P f fm W λcJ ao=>∃r aH c aa,cJ=.returned aH/\R r aa/\aD c r aH/\Rel hZ 0 c aa ao/\Below W.heap.size W ao/\(∀b L,c b=some L->N L.aW∨W.heap.size<=L.aW)/\∀b L,c b=some L->ev (aa.get b)->W.heap.size<=L.aW:=by
 obtain⟨r,aa,⟨M,l⟩,m⟩:=e;have n:eF G γ:=by
  intro g b;obtain rfl:=i g b;obtain⟨L,b,f,i⟩:=h.uk;exact⟨L,b,f,i⟩
 have o:=j M M ⟨0,[],none⟩ f args H r aa rfl (l M M (bg _) (bg _)) 0 γ W fm h.rel n k;refine o.mono λcJ ao ⟨c,aH,i,j,a⟩=>⟨r,aH,c,aa,i,m,j,a.rel,⟨a.os,a.tape,a.output,a.grow,λc e=>a.u c e λb L d r=>(h.ro b r).elim⟩,λb L d=>?_,λb L d rw=>?_⟩
 ·cases f:γ b with
  | some c=>
    have:=a.ext b c f;rw[d]at this;cases this;exact .inl (h.n b L f)
  | none=>
    rcases a.fresh b L d f with q | ⟨c,_,_,q,_⟩
    ·exact .inr q
    ·exact(h.ro c q).elim
 ·cases f:γ b with
  | some c=>exact(h.ro b (a.hW b c f rw)).elim
  | none=>
    rcases a.fresh b L d f with q | ⟨a,_,_,q,_⟩
    ·exact q
    ·exact(h.ro a q).elim
theorem xe(B:G 1=true)(C:∀g,G g=true->g=1)(D:∀m d,dK hZ P G (X.K m d)){f:FuncId}{r:List Value->ad->Option fl}
 (h:∀args H x,r args H=some x->∀g γ w fm,Rel fh g γ H w->br γ args fm->∀fe aj,In hZ (fg γ H w) w fe aj->∃j k l,In hZ (fg γ H w) w j k/\br j l fm/\Call X ⟨0,[],none⟩ f l k x.post):eh fh P G f (cL r):=by
 intro E args H _ _ _ a g γ w fm e F I;unfold cL at a
 cases m:j0 H with
 | false=>rw[m]at a;cases a
 | true=>
   rw[m]at a;simp only[cond_true]at a;split at a
   ·rename_i x J;simp only[ax]at a;obtain⟨L,G,K,_⟩:=F 1 B;obtain⟨_,b,d⟩:=e.aW 1 L G;rw[HW m]at b;cases b;obtain⟨u,_,_,_,M,O,n⟩:=d;rw[K]at u n;obtain⟨j,k,l,P,Q,o⟩:=h args H x J g γ w fm.toList e I _ _ (In.start (λ_ h=>⟨rfl,h,M,O,n⟩) n u);refine(N4 C D P o Q).mono λ_ v ⟨r,_,R,S,b,f,d,y,s,T,U⟩=>?_;have z:∀{p i:Value} {q:Rat},fA S p q->aD R p i->∃c,i=.pointer (some ⟨c,0,none⟩)/\Step fh g E γ H w (γ.set H.next ⟨c,0,0,0⟩) (H.new (.cr (.gY q))) v/\aD (γ.set H.next ⟨c,0,0,0⟩) (.pointer (some ⟨H.next,0,none⟩)) i:=λ{p i q} t V=>by
     obtain⟨c,L,r,rfl,A,rfl,h,W⟩:=fA.out (N:=λc=>fg γ H w c∨w.heap.size<=c) y T t V;have X:L.aW<v.heap.size:=by
      obtain⟨x,w,H⟩:=y.aW r L A;rw[w]at h;exact H.lt h
     exact⟨L.aW,rfl,Step.cr e s (U r L A h) X (W.mono λc o Y=>⟨⟨Y,o⟩,rfl⟩),Cq⟩
    cases x with
    | cB q=>
      cases a;obtain⟨c,rfl,h,r⟩:=z f d;exact⟨_,_,b,r,h⟩
    | val _=>
      cases a;obtain⟨rfl,h⟩:=f;obtain rfl:=RT d h;exact⟨γ,_,b,.plainCell h,Step.below e s⟩
    | no=>
      cases a;cases f;obtain⟨r,rfl,w⟩:=d.yK;obtain⟨r⟩:=r
      cases w with
      | cons x h=>
        cases h with
        | cons h A=>
          cases A;cases x;cases h;exact⟨γ,_,b,.tuple (.cons .uQ (.cons (.bool _) .nil)),Step.below e s⟩
    | yes q=>
      cases a;obtain⟨p,rfl,t⟩:=f;obtain⟨r,rfl,w⟩:=d.yK;obtain⟨r⟩:=r
      cases w with
      | cons x h=>
        cases h with
        | cons h A=>
          cases A;obtain⟨c,rfl,H,N⟩:=z t x;obtain rfl:=h.jP;exact⟨_,_,b,.tuple (.cons N (.cons (.bool _) .nil)),H⟩
   ·cases a
theorem In.ok{O:b0}{N:Nat->Prop}{W:World}{γ:aL}{H:ad}(h:In O N W γ H):bR ⟨0,[],none⟩ H:=⟨rfl,Nat.zero_le _,h.rel.new,λ_ _=>trivial⟩
theorem u'(e:G 1=true)(i:∀g,G g=true->g=1)(j:∀m d,dK hZ P G (X.K m d)){f:FuncId}{k:Rat->fl}
 (h:∀{H v q},bR ⟨0,[],none⟩ H->Tab H->eY H v q->bw q=true->Call X ⟨0,[],none⟩ f [v] H (k q).post):eh fh P G f (cL (nf k)):=by
 refine xe e i j λ_ H _ a _ _ _ _ d g _ _ l=>?_;unfold nf at a;split at a
 ·rename_i _;split at a
  ·rename_i p n
   cases b:bw p with
   | false=>rw[b]at a;cases a
   | true=>
     rw[b]at a;simp only[cond_true,ax]at a;subst a
     cases g with
     | cons f k=>
       cases k;obtain⟨m,o,q,c,_,_,r,s⟩:=l.gY (AM d n f);exact⟨m,o,[q],c,.cons r .nil,h c.ok c.dD s b⟩
  ·cases a
 ·cases a
theorem va(i:G 1=true)(j:∀g,G g=true->g=1)(l:∀m d,dK hZ P G (X.K m d)){f:FuncId}{k:Rat->Rat->fl}
 (h:∀{H v u p q},bR ⟨0,[],none⟩ H->eY H v p->eY H u q->bw p=true->bw q=true->Call X ⟨0,[],none⟩ f [v,u] H (k p q).post):eh fh P G f (cL (k5 k)):=by
 refine xe i j l λ_ H _ a _ _ _ _ d g _ _ m=>?_;unfold k5 at a;split at a
 ·rename_i _ _;split at a
  ·rename_i p n;split at a
   ·rename_i q o
    cases b:(bw p&&bw q) with
    | false=>rw[b]at a;cases a
    | true=>
      rw[b]at a;simp only[cond_true,ax]at a;subst a;rw[b3]at b
      cases g with
      | cons f c=>
        cases c with
        | cons c k=>
          cases k;obtain⟨_,_,p,q,_,_,r,s⟩:=m.gY (AM d n f);obtain⟨t,u,v,e,w,x,y,z⟩:=q.gY (AM d o c);exact⟨t,u,[p,v],e,.cons (r.mono w) (.cons y .nil),h e.ok (s.le x) z b.1 b.2⟩
   ·cases a
  ·cases a
 ·cases a
structure FN(P:Program)(G:Nat->Bool):Prop where
 KW:eh fh P G F.fW (cL vb)
 KT:eh fh P G F.hQ (cL sL)
 KP:eh fh P G F.gq (cL x')
 KY:eh fh P G F.ik (cL yf)
 KU:eh fh P G F.fV (cL yc)
 KR:eh fh P G F.jc (cL yb)
 KQ:eh fh P G F.gJ (cL ya)
 KV:eh fh P G F.ij (cL yd)
 KX:eh fh P G F.dY (cL ye)
 KS:eh fh P G F.mU (cL CJ)
 K0:eh fh P G F.lT (cL CK)
 KZ:eh fh P G F.hy (cL yg)
theorem Oz(f:G 1=true)(i:∀g,G g=true->g=1)(j:∀m d,dK hZ P G (X.K m d))(k:fT X):FN P G where
 KW:=xe f i j λw H x b y γ z A B r t u n=>by
  unfold vb at b;split at b
  ·rename_i v
   cases e:(decide (-9223372036854775808<=v)&&decide (v<=9223372036854775807)) with
   | false=>rw[e]at b;cases b
   | true=>
     rw[e]at b;simp only[cond_true,ax]at b;subst b;simp only[b3,df]at e;exact⟨t,u,[.int .i64 v],n,(by cases r with | cons c d=>cases d;rw[c.U];exact .cons (.int _ _) .nil),(MD k n.ok e.1 e.2).mono λ_ _ h=>h.2⟩
  ·cases b
 KT:=xe f i j λw H x b y γ z A B r t u n=>by
  unfold sL at b;split at b
  ·rename_i s
   cases o:Nat.blt s.size 1000000 with
   | false=>rw[o]at b;cases b
   | true=>
     rw[o]at b;simp only[cond_true,ax]at b;subst b;rw[fG,df]at o;refine⟨t,u,[.string s],n,(by cases r with | cons c d=>cases d;rw[c.fK];exact .cons (.str _) .nil),?_⟩;refine(Mo (l:=s.data.toList) k n.ok n.dD o).mono λC D h=>?_
     rcases h.2 with⟨e,h⟩ | ⟨q,p,e,h,fF⟩
     ·rw[e];exact h
     ·rw[e];exact⟨p,h,fF⟩
  ·cases b
 KP:=va f i j λa c d g m=>(Fw k.toc4 a c d (bw.aS g) (bw.aS m) (by decide)).mono λ_ _ h=>h.2
 KY:=va f i j λa c d g m=>(Gb k.toc4 a c d (bw.aS g) (bw.aS m) (by decide)).mono λ_ _ h=>h.2
 KU:=va f i j λa c d g m=>(MA k.toc4 a c d (bw.aS g) (bw.aS m) (by decide)).mono λ_ _ h=>h.2
 KR:=va f i j λ{H _ _ p q} a c d g m=>(Md k.toc4 a c d (bw.aS g) (bw.aS m) (by decide)).mono λC D h=>by
  rcases h.2 with⟨e,h⟩ | ⟨e,x,h,fF⟩
  ·rw[aT e];exact h
  ·rw[aC e];exact⟨x,h,fF⟩
 KQ:=va f i j λa c d g m=>(LY k.toc4 a c d (bw.aS g) (bw.aS m) (s3 (bw.aS g) (bw.aS m)) (by decide)).mono λ_ _ h=>⟨h.2,rfl⟩
 KV:=u' f i j λa _ h s=>(FZ k.toc4 a h (bw.aS s) (by decide)).mono λ_ _ h=>h.2
 KX:=u' f i j λa _ h s=>(F' k.toc4 a h (bw.aS s) (by decide)).mono λ_ _ h=>⟨h.2,rfl⟩
 KS:=u' f i j λa _ h s=>(Ml k.toc4 a h (bw.aS s) (by decide)).mono λ_ _ h=>h.2
 K0:=u' f i j λa _ h s=>(ML k.toc4 a h (bw.aS s) (by decide)).mono λ_ _ h=>⟨h.2,rfl⟩
 KZ:=u' f i j λa E h s=>(Gf k a E h (bw.aS s) (by decide) (by decide)).mono λ_ _ h=>⟨h.2,rfl⟩
end
end Go.Dam.C
namespace Go.Dam
open Go
section
variable{X:ar}{pm:Perm}{Q hF:b5}
theorem dz.mono(h:∀x l H,Q x l H->hF x l H):∀{au:List Fr} {x:dS} {e:Env} {H:ad},dz X pm x e H au Q->dz X pm x e H au hF
 | [],_,_,_,⟨l,a,b⟩=>⟨l,a,h _ _ _ b⟩
 | .seq _::au,x,e,H,q=>by
   cases x with
   | normal=>
     obtain⟨a,b,c,d,e⟩:=q;exact⟨a,b,c,d,dz.mono h e⟩
   | exit i=>exact dz.mono (au:=au) (x:=.exit i) h q
   | ret=>exact dz.mono (au:=au) (x:=.ret) h q
 | .aW id::au,x,e,H,q=>by
   cases x with
   | normal=>exact dz.mono (au:=au) (x:=.normal) h q
   | ret=>exact dz.mono (au:=au) (x:=.ret) h q
   | exit _=>
     simp only[dz]at q|-;split
     ·rename_i f;rw[aT f]at q;exact dz.mono h q
     ·rename_i g;rw[aC g]at q;exact dz.mono h q
theorem gP.mono(h:∀x l H,Q x l H->hF x l H){c:kA}{l:bb}{H:ad}{au:List Fr}(q:gP X pm c l H au Q):gP X pm c l H au hF:=λe a=>by
 have:=q e a
 cases c with
 | code c=>obtain⟨a,b,d,e,f⟩:=this;exact⟨a,b,d,e,dz.mono h f⟩
 | ops _=>obtain⟨a,b,c,d⟩:=this;exact⟨a,b,c,dz.mono h d⟩
 | res x=>exact dz.mono h this
theorem wp_mono(h:∀x l H,Q x l H->hF x l H){c:kA}{l:bb}{H:ad}{au:List Fr}:wp X pm c l H au Q->wp X pm c l H au hF:=by
 fun_induction wp X pm c l H au Q with
 | case1 l H au ih=>intro q;rw[wp];exact ih q
 | case2 l H au _ ih=>intro q;rw[wp];exact ih q
 | case3=>intro q;rw[wp];exact gP.mono h q
 | case4 l H au _ _ ih=>intro q;rw[wp];exact ih q
 | case5 l H au c _ _ _ a b d=>intro q;rw[wp];rw[a];exact⟨λe=>b (q.1 e),λe=>d (q.2 e)⟩
 | case6=>intro q;exact q.elim
 | case7 l H au id _ ih=>intro q;rw[wp];exact ih q
 | case8=>intro q;rw[wp];exact gP.mono h q
 | case9 l H au id ih=>intro q;rw[wp];exact ih q
 | case10 l H au ih=>intro q;rw[wp];exact ih q
 | case11=>intro q;exact q.elim
 | case12 l H au ih=>intro q;rw[wp];exact ih q
 | case13 l H au _ _ _ _ a=>intro q;rw[wp];rw[a];exact gP.mono h q
 | case14 l H au _ _ _ _ a=>intro q;rw[wp];rw[a];exact gP.mono h q
 | case15 l H au _ _ _ _ a b c ih=>
   intro q;rw[wp];split
   ·rename_i _ _ f;exact absurd f (b _ _)
   ·rename_i _ _ g;exact absurd g (c _ _)
   ·rw[a];exact ih q
 | case16=>intro q;exact q.elim
 | case17 l H x=>intro q;rw[wp];exact h _ _ _ q
 | case18 l H _ au ih=>intro q;rw[wp];exact ih q
 | case19 l H _ au x a ih=>intro q;cases x with
   | normal=>exact absurd rfl a
   | exit _=>rw[DD];exact ih q
   | ret=>rw[DE];exact ih q
 | case20 l H id au ih=>intro q;rw[vB,aT rfl];exact ih q
 | case21 l H id au _ a ih=>intro q;rw[vB,aC a];exact ih q
 | case22 l H id au x a ih=>intro q;cases x with
   | normal=>rw[DB];exact ih q
   | exit i=>exact absurd rfl (a i)
   | ret=>rw[DC];exact ih q
end
section
variable{X:ar}{pm:Perm}{Q hF:b5}
theorem dz.frame{a:List Fr}(h:∀x l H,hF x l H->wp X pm (.res x) l H a Q):∀{au:List Fr} {x:dS} {e:Env} {H:ad},dz X pm x e H au hF->dz X pm x e H (au++a) Q
 | [],x,e,H,⟨l,b,c⟩=>kx (h _ _ _ c) e b
 | .seq _::au,x,e,H,q=>by
   cases x with
   | normal=>
     obtain⟨b,c,d,e,f⟩:=q;exact⟨b,c,d,e,dz.frame h f⟩
   | exit i=>exact dz.frame (au:=au) (x:=.exit i) h q
   | ret=>exact dz.frame (au:=au) (x:=.ret) h q
 | .aW id::au,x,e,H,q=>by
   cases x with
   | normal=>exact dz.frame (au:=au) (x:=.normal) h q
   | ret=>exact dz.frame (au:=au) (x:=.ret) h q
   | exit _=>
     simp only[dz,kl]at q|-;split
     ·rename_i g;rw[aT g]at q;exact dz.frame h q
     ·rename_i j;rw[aC j]at q;exact dz.frame h q
theorem gP.frame{a:List Fr}(h:∀x l H,hF x l H->wp X pm (.res x) l H a Q){c:kA}{l:bb}{H:ad}{au:List Fr}(q:gP X pm c l H au hF):gP X pm c l H (au++a) Q:=λe a=>by
 have:=q e a
 cases c with
 | code c=>obtain⟨a,b,d,e,f⟩:=this;exact⟨a,b,d,e,dz.frame h f⟩
 | ops _=>obtain⟨a,b,c,d⟩:=this;exact⟨a,b,c,dz.frame h d⟩
 | res x=>exact dz.frame h this
theorem TT{a:List Fr}(h:∀x l H,hF x l H->wp X pm (.res x) l H a Q){c:kA}{l:bb}{H:ad}{au:List Fr}:wp X pm c l H au hF->wp X pm c l H (au++a) Q:=by
 fun_induction wp X pm c l H au hF with
 | case1 l H au ih=>intro q;rw[wp];exact ih q
 | case2 l H au _ ih=>intro q;rw[wp];exact ih q
 | case3=>intro q;rw[wp];exact gP.frame h q
 | case4 l H au _ _ ih=>intro q;rw[wp];exact ih q
 | case5 l H au c _ _ _ b d f=>intro q;rw[wp];rw[b];exact⟨λe=>d (q.1 e),λe=>f (q.2 e)⟩
 | case6=>intro q;exact q.elim
 | case7 l H au id _ ih=>intro q;rw[wp];exact ih q
 | case8=>intro q;rw[wp];exact gP.frame h q
 | case9 l H au id ih=>intro q;rw[wp];exact ih q
 | case10 l H au ih=>intro q;rw[wp];exact ih q
 | case11=>intro q;exact q.elim
 | case12 l H au ih=>intro q;rw[wp];exact ih q
 | case13 l H au _ _ _ _ b=>intro q;rw[wp];rw[b];exact gP.frame h q
 | case14 l H au _ _ _ _ b=>intro q;rw[wp];rw[b];exact gP.frame h q
 | case15 l H au _ _ _ _ b c d ih=>
   intro q;rw[wp];split
   ·rename_i _ _ g;exact absurd g (c _ _)
   ·rename_i _ _ i;exact absurd i (d _ _)
   ·rw[b];exact ih q
 | case16=>intro q;exact q.elim
 | case17 l H x=>intro q;exact h _ _ _ q
 | case18 l H _ au ih=>intro q;rw[kl,wp];exact ih q
 | case19 l H _ au x b ih=>intro q;cases x with
   | normal=>exact absurd rfl b
   | exit _=>rw[kl,DD];exact ih q
   | ret=>rw[kl,DE];exact ih q
 | case20 l H id au ih=>intro q;rw[kl,vB,aT rfl];exact ih q
 | case21 l H id au _ b ih=>intro q;rw[kl,vB,aC b];exact ih q
 | case22 l H id au x b ih=>intro q;cases x with
   | normal=>rw[kl,DB];exact ih q
   | exit c=>exact absurd rfl (b c)
   | ret=>rw[kl,DC];exact ih q
theorem wp_cut{c:kA}{l:bb}{H:ad}{au:List Fr}(hF:b5)(q:wp X pm c l H [] hF)(h:∀x l H,hF x l H->wp X pm (.res x) l H au Q):wp X pm c l H au Q:=TT (au:=[]) h q
end
end Go.Dam
namespace Go.Dam.C
open Go Go.Dam
variable{X:ar}{pm:Perm}{H aa:ad}
def vV(X:ar)(pm:Perm)(f:Nat)(au:List Fr)(Q:b5)(b:bb->ad->Prop):b5:=λx a aa=>match x with
 | .normal=>b a aa
 | .exit j=>if j=f then b a aa else wp X pm (.res (.exit j)) a aa au Q
 | .ret=>wp X pm (.res .ret) a aa au Q
@[simp] theorem T'{f:Nat}{au:List Fr}{Q:b5}{a:bb->ad->Prop}{l:bb}:vV X pm f au Q a .normal l H=a l H:=rfl
@[simp] theorem Ua{f:Nat}{au:List Fr}{Q:b5}{a:bb->ad->Prop}{l:bb}:vV X pm f au Q a .ret l H=wp X pm (.res .ret) l H au Q:=rfl
@[simp] theorem Mm{f:Nat}{au:List Fr}{Q:b5}{a:bb->ad->Prop}{l:bb}{i:Nat}:vV X pm f au Q a (.exit i) l H=if i=f then a l H else wp X pm (.res (.exit i)) l H au Q:=rfl
theorem Gc{i c:Nat}{u v:Value}{aN:bb}:∀(M:bb),aK i M=none->aK c M=none->Sub M aN->Sub M ((i,u)::(c,v)::aN)
 | [],_,_,_=>trivial
 | (j,_)::M,a,b,d=>by
   simp only[BH]at a b;by_cases e:i=j
   ·rw[aT e]at a;cases a
   by_cases f:c=j
   ·rw[aT f]at b;cases b
   rw[aC e]at a;rw[aC f]at b;simp only[ts,BH,Ne.symm e,Ne.symm f,if_false]at d|-;exact⟨d.1,Gc M a b d.2⟩
theorem eE{σ:Type}{c i n a e f:Nat}{B:aM}{l:bb}{au:List Fr}{Q:b5}(N:Nat)(L:Nat->σ->bb)(I:Nat->σ->ad->Prop)(d:σ)
 (q:c≠i/\c≠n/\a≠i/\a≠n/\i≠n) (E:N<9223372036854775807) (r:Sub ((i,.int .i64 0)::(n,.int .i64 (N:Int))::L 0 d) l) (t:I 0 d H)
 (j:∀k s,aK i (L k s)=none/\aK a (L k s)=none)
 (u:∀k s H,k<N->I k s H->wp X pm (.code B) ((c,.bool true)::(i,.int .i64 (k:Int))::(n,.int .i64 (N:Int))::L k s) H []
  (vV X pm f au Q λaN aa=>∃b,Sub ((i,.int .i64 (k:Int))::(n,.int .i64 (N:Int))::L (k+1) b) aN/\I (k+1) b aa))
 (v:∀s H,I N s H->wp X pm (.res (.exit e)) ((c,.bool false)::(i,.int .i64 (N:Int))::(n,.int .i64 (N:Int))::L N s) H au Q):
 ef X pm (.seq (.bj [o c (.bin .lss .bE (.t i) (.t n))]) (.seq (.cond (.t c) .skip (.exit e)) (.seq (.block f B) (.bj [o a (.bin .add .bE (.t i) (.c (.int .i64 (.ofNat 1)))),m i a])))) l H au Q:=by
 obtain⟨_,_,_,w,g⟩:=q;refine ef.of (σ:=Nat×σ) (λs=>(i,.int .i64 (s.1:Int))::(n,.int .i64 (N:Int))::L s.1 s.2) (λs H=>s.1<=N/\I s.1 s.2 H) (λs=>N-s.1) (0,d) (by simpa using r) ⟨Nat.zero_le _,t⟩ ?_;rintro⟨k,s⟩ H ⟨y,h⟩;simp only at y h|-;by_cases p:k<N
 ·have l:wr .i64 ((k:Int)+1)=((k+1:Nat):Int):=by rw[b8 (by omega) (by omega)];simp
  simp[Ne.symm g,p];refine wp_cut _ (u k s H p h) λx aN aa b=>?_
  have e:(∃c,Sub ((i,.int .i64 (k:Int))::(n,.int .i64 (N:Int))::L (k+1) c) aN/\I (k+1) c aa)->wp X pm (.res .normal) aN aa [.seq (.bj [o a (.bin .add .bE (.t i) (.c (.int .i64 (.ofNat 1)))),m i a])] λx aN aa=>match x with
   | .normal=>jk (λ(s:Nat×σ)=>(i,.int .i64 (s.1:Int))::(n,.int .i64 (N:Int))::L s.1 s.2) (λs H=>s.1<=N/\I s.1 s.2 H) (λs=>N-s.1) (k,s) aN aa
   | x=>wp X pm (.res x) aN aa au Q:=by
   rintro⟨c,f,m⟩;simp only[ts]at f;obtain⟨o,z,A⟩:=f;simp[o,l];refine .of (k+1,c) (by show N-(k+1)<N-k;omega) ?_ ⟨by show k+1<=N;omega,m⟩;simp only[ts,BH,if_true,Ne.symm g,if_false,Ne.symm w];exact⟨rfl,z,Gc _ (j _ _).1 (j _ _).2 A⟩
  cases x with
  | normal=>rw[DB];exact e b
  | exit _=>
    rw[Mm]at b;rw[vB];split
    ·rename_i C;rw[aT C]at b;exact e b
    ·rename_i D;rw[aC D]at b;rw[DD,LM];exact b
  | ret=>rw[DC,DE,LM];exact b
 ·obtain rfl:k=N:=by omega
  simp[Ne.symm g];exact v s H h
theorem eM{o:aw}{f:FuncId}{args:List bC}{bW:List Bool}{os:List aw}{aE k:Nat}{l:bb}{b:List Rec}{c:Fin}{az:List Value}{R:Value->ad->Prop}(g:bs pm H)(d:H.get (aE+k)=none)
 (e:ia o l=some true) (i:dN (hd l) args=some az) (j:bW.headD false=false) (h:∀dC,bs dC H->Call X dC f az H λr aa=>K dC H aa/\R r aa)
 (m:∀v a,K pm H a->R v a->iD X pm bW.tail os aE (k+1) (hP l o.dst v) a (⟨[],ed ⟨pm.ah,pm.ok,some (aE+k)⟩ az,H,v,λ_=>none⟩::b) c):fL X pm o f args bW os aE k l H b c:=
 fL.of d e i j (h _ (g.perm rfl (bg _))) λv a ⟨b,r⟩=>m v a (b.perm g.num (aY g.ah b.next)) r
theorem gS{o:aw}{f:FuncId}{args:List bC}{bW:List Bool}{os:List aw}{aE k:Nat}{l:bb}{b:List Rec}{c:Fin}{az:List Value}{R:Value->ad->Prop}(g:bs pm H)(d:H.get (aE+k)=none)
 (e:ia o l=some true) (i:dN (hd l) args=some az) (j:bW.headD false=true) (h:∀dC,bs dC H->Call X dC f az H λr aa=>K dC H aa/\R r aa)
 (m:∀v a,K pm H a->R v a->iD X pm bW.tail os aE (k+1) (hP l o.dst v) a (⟨[],[],H,v,λ_=>none⟩::b) c):fL X pm o f args bW os aE k l H b c:=
 fL.fixed d e i j (h _ (g.perm rfl g.ah)) λv a ⟨b,r⟩=>m v a (b.perm g.num (aY g.ah b.next)) r
theorem jR{f:FuncId}{az:List Value}{R:Value->Prop}(g:bs pm H)(h:Call X pm f az H λr aa=>aa=H/\R r):Call X pm f az H λr aa=>K pm H aa/\aa=H/\R r:=
 h.mono λ_ _ ⟨a,b⟩=>by subst a;exact⟨K.refl g,rfl,b⟩
end Go.Dam.C
namespace Go.Dam.C
open Go Go.Dam
theorem jT(l:List Nat):du [] l=true:=rfl
theorem dM(l:List Nat):du l []=true:=by simp[du]
theorem xY(m:Perm)(l:List UInt8):ed m [aA l]=[]:=rfl
structure dy where
 name:List UInt8
 low:List UInt8
 up:List UInt8
 cost:List UInt8
 int:Bool
structure dq where
 af:Int
 v:List UInt8
structure bQ where
 name:List UInt8
 kind:Int
 j:List dq
 rhs:List UInt8
 kp:List UInt8
structure aI where
 a:List dy
 rows:List bQ
def dy.cells(c:dy):List Value:=[aA c.name,aA c.low,aA c.up,aA c.cost,.bool c.int]
def dq.cells(c:dq):List Value:=[.int .i64 c.af,aA c.v]
def bQ.cells(r:bQ)(bP:Value):List Value:=[aA r.name,.int .i64 r.kind,bP,aA r.rhs,aA r.kp]
def isNum(l:List UInt8):Bool:=(gH l).isSome
def rd(l:List UInt8):Rat:=(gH l).getD 0
structure c8(H:ad)(v:Value)(m w:Nat)(P:Nat->List Value->Prop):Prop where
 ex:∃base cap,v=.slice base m cap/\∀i,i<m->∃b off y row cs,base=some ⟨b,off,none⟩/\H.get b=some y/\rowOf y=some row/\bx row (off+i*w) w=some cs/\P i cs
def gC(H:ad)(v:Value)(l:List dy):Prop:=c8 H v l.length 5 λi a=>∃c,l[i]? = some c/\a=c.cells
def gB(H:ad)(v:Value)(l:List dq):Prop:=c8 H v l.length 2 λi a=>∃c,l[i]? = some c/\a=c.cells
def iM(H:ad)(v:Value)(l:List bQ):Prop:=c8 H v l.length 5 λi b=>∃r a,l[i]? = some r/\b=r.cells a/\gB H a r.j
def iL(H:ad)(v:Value)(ab:aI):Prop:=∃a b,v=.agg #[a,b]/\gC H a ab.a/\iM H b ab.rows
structure iO(X:ar):Prop extends zg X where
 jy:Has X F.jy C.jy
 hf:Has X F.hf C.hf
 og:Has X F.og C.og
 oh:Has X F.oh C.oh
 i':Has X F.i' C.i'
 oe:Has X F.oe C.oe
 mP:Has X F.mP C.mP
 ke:Has X F.ke C.ke
 py:Has X F.py C.py
 px:Has X F.px C.px
 pw:Has X F.pw C.pw
 qD:Has X F.qD C.qD
 sl:Has X F.sl C.sl
 mS:Has X F.mS C.mS
 mQ:Has X F.mQ C.mQ
 qE:Has X F.qE C.qE
 qF:Has X F.qF C.qF
 qG:Has X F.qG C.qG
 pv:Has X F.pv C.pv
 oA:Has X F.oA C.oA
 l3:Has X F.l3 C.l3
 nm:Has X F.nm C.nm
 oB:Has X F.oB C.oB
variable{X:ar}{pm:Perm}{H aa bL:ad}{n:Nat}
theorem c8.imp{v:Value}{m w:Nat}{P a:Nat->List Value->Prop}(h:c8 H v m w P)(c:∀b y,H.get b=some y->aa.get b=some y)(d:∀i cs,i<m->P i cs->a i cs):c8 aa v m w a:=by
 obtain⟨a,e,f,g⟩:=h.ex;exact⟨a,e,f,λi a=>by
  obtain⟨b,e,y,f,cs,h,j,k,l,m⟩:=g i a;exact⟨b,e,y,f,cs,h,c _ _ j,k,l,d _ _ a m⟩⟩
theorem gC.ext{v:Value}{l:List dy}(h:gC H v l)(a:Ext H aa):gC aa v l:=c8.imp h a λ_ _ _=>id
theorem gB.ext{v:Value}{l:List dq}(h:gB H v l)(a:Ext H aa):gB aa v l:=c8.imp h a λ_ _ _=>id
theorem iM.ext{v:Value}{l:List bQ}(h:iM H v l)(a:Ext H aa):iM aa v l:=
 c8.imp h a λ_ _ _ ⟨r,b,c,d,e⟩=>⟨r,b,c,d,e.ext a⟩
theorem iL.ext{v:Value}{ab:aI}(h:iL H v ab)(a:Ext H aa):iL aa v ab:=by
 obtain⟨b,c,d,e,f⟩:=h;exact⟨b,c,d,e.ext a,f.ext a⟩
theorem K.ext(k:K pm H aa)(g:bs pm H):Ext H aa:=λ_ _ h=>k.some g h
theorem c8.at{v:Value}{m w:Nat}{P:Nat->List Value->Prop}(h:c8 H v m w P):∃a cap,v=.slice a m cap/\∀i,i<m->∃b off y row cs,a=some ⟨b,off,none⟩/\H.get b=some y/\rowOf y=some row/\bx row (off+i*w) w=some cs/\P i cs:=h.ex
theorem uJ(a:iO X)(g:bs pm H){l:List UInt8}(c:l.length<1000000):Call X pm F.jy [aA l] H λr aa=>K pm H aa/\r=.bool (isNum l):=by
 refine Call.has a.jy rfl ?_;simp;refine aq.of (by simp) (by simp) (vX a.tozg g c) ?_;rintro r _ ⟨b,h⟩
 rcases h with⟨e,rfl⟩ | ⟨q,p,e,rfl,xm⟩
 ·simp[isNum,e];exact b
 ·simp[isNum,e];exact b
theorem CX(a:iO X)(g:bs pm H){l:List UInt8}(b:l.length<1000000)(c:isNum l=true):Call X pm F.hf [aA l] H λr aa=>K pm H aa/\b9 aa r (rd l):=by
 refine Call.has a.hf rfl ?_;simp;refine aq.of (by simp) (by simp) (vX a.tozg g b) ?_;rintro r _ ⟨d,h⟩
 rcases h with⟨e,rfl⟩ | ⟨q,p,e,rfl,xm⟩
 ·simp[isNum,e]at c
 ·simp[rd,e];exact⟨d,xm⟩
theorem G6{t:List UInt8}:(iT t).1.length<=t.length/\(iT t).2.length<=max t.length 1:=by
 unfold iT;split
 ·refine⟨(List.takeWhile_sublist _).length_le,aY ?_ (Nat.le_max_left _ _)⟩;rw[List.length_tail];exact aY (Nat.sub_le _ _) (List.dropWhile_sublist _).length_le
 ·simp;omega
theorem Jf{l:List UInt8}:(gn l).2.length<=l.length:=by
 unfold gn;split<;>simp
theorem jg{l:List UInt8}{k:Nat}(h:l.length<=k)(b:1<=k):aS (rd l) k:=by
 unfold rd
 cases e:gH l with
 | none=>
   have:4294967296^1<=4294967296^k:=fX (by decide) b;exact⟨by show 0<_;omega,by show 1<_;omega⟩
 | some _=>
   unfold gH lD at e;split at e
   ·rename_i c;obtain⟨d,f,a,_⟩:=c;simp only[ax]at e;have m:=@G6 (gn l).2;have n:=@Jf l;have g:=(xk d).1;have h:=(xk f).1;have i:=kg g (show _<=k by omega);have j:=kg h (show _<=k by omega);rw[<-e];simp only[jf];exact⟨by rw[BN a];exact cV (kk _ _) i,by rw[BM a];exact cV (kk _ _) j⟩
   ·cases e
theorem CS{l:List UInt8}(h:l.length<=10000):bw (rd l)=true:=(jg (k:=10000) h (by decide)).bw (by decide)
theorem qa(p q:Rat):(lx p q<0)=(p<q):=by
 unfold lx;apply propext;by_cases h:p<q
 ·simp[h]
 ·by_cases a:p=q<;>simp[h,a]
theorem cmp_eq(p q:Rat):(lx p q=0)=(p=q):=by
 unfold lx;apply propext;by_cases h:p<q
 ·simp only[h,if_true];exact⟨λh=>by omega,λe=>absurd (e▸h) qK⟩
 ·by_cases a:p=q<;>simp[h,a]
theorem wI(p q:Rat):(0<lx p q)=(q<p):=by
 unfold lx;apply propext;by_cases h:p<q
 ·simp only[h,if_true];exact⟨λh=>by omega,λe=>absurd e (pD.2 (iu h))⟩
 ·by_cases a:p=q
  ·subst a;simp
  ·simp only[h,a,if_false];exact⟨λ_=>Rat.lt_of_le_of_ne (pD.1 h) (Ne.symm a),λ_=>by omega⟩
theorem QJ(p q:Rat):(!decide (p<=q))=decide (q<p):=by
 by_cases h:p<=q
 ·simp[h,pD.2 h]
 ·simp[h,Rat.not_le.1 h]
end Go.Dam.C
namespace Go.Dam.C
open Go Go.Dam
def h6(c:dy):Bool:=isNum c.cost&&((c.low.isEmpty||isNum c.low)&&((c.up.isEmpty||isNum c.up)&&(c.low.isEmpty||(c.up.isEmpty||decide (rd c.low<=rd c.up)))))
def dy.ok(c:dy):Prop:=c.low.length<=10000/\c.up.length<=10000/\c.cost.length<=10000
variable{X:ar}{pm:Perm}{H aa bL:ad}
def rp(b:List ld)(R:Value->ad->Prop):b5:=λx l aa=>(x=.normal∨x=.ret)/\∃a,hU l aa b=some a/\R (f' a) aa
@[simp] theorem eL{a:List ld}{R:Value->ad->Prop}{x:dS}{l:bb}{aa:ad}:rp a R x l aa=((x=.normal∨x=.ret)/\∃az,hU l aa a=some az/\R (f' az) aa):=rfl
theorem Call.kK{f:FuncId}{args:List Value}{R:Value->ad->Prop}{F:aZ}(a:Has X f F)(b:Nat.ble args.length F.hN=true)
 (h:wp X pm (.code F.body) (p7 args 0 []) H [] (rp F.res R)):Call X pm f args H R:=Call.has a b h
theorem bs.none(g:bs pm H)(t:Nat):H.get (H.next+t)=Option.none:=g.wf _ (e9 _ _)
theorem bs.J(g:bs pm H):H.get H.next=Option.none:=g.wf _ (bg _)
theorem aF.res{n:Nat}{a:ad}(u:K pm (H.up n) a)(g:bs pm H):∀t,t<n->a.get (H.next+t)=none:=λt _=>(u.get _ (by show H.next+t<H.next+n;omega)).trans (g.none t)
theorem G2(e:iO X){aj:ad}(f:K pm aj H){ie ah up co:List UInt8}{i:Bool}(t:ah.length<=10000)(u:up.length<=10000)(cf:ah.isEmpty=true∨isNum ah=true)(l:up.isEmpty=true∨isNum up=true){b:Nat}{z:cz}(h:H.get b=some (.cells [aA ie,aA ah,aA up,aA co,.bool i] z)){L:bb}(m:aK 1 L=some (.pointer (some ⟨b,0,none⟩))):
 wp X pm (.code hO) L H [] (rp [.slot 2] λr aa=>K pm aj aa/\r=.bool (ah.isEmpty||(up.isEmpty||decide (rd ah<=rd up)))):=by
 have g:=f.h;have a:∀v,H.get (H.next+v)=none:=g.none;have n:H.get H.next=none:=g.J;have o:=g.lt h;have i:K pm H (H.up 19):=(K.refl g).up 19;simp[-eL];refine cy.of g.ah rfl ?_;by_cases j:ah.isEmpty=true∨up.isEmpty=true
 ·have d:(ah.isEmpty||up.isEmpty)=true:=by simpa using j
  have k:=f.trans i;cases b:ah.isEmpty<;>cases c:up.isEmpty<;>first | (simp[b,c]at d;done) | skip
  all_goals
   simp[b7,a,n,m,h,iP,b,c]
   refine fL.not (by simp[a]) (by simp) ?_
   simp
   refine fL.not (by simp[a]) (by simp) ?_
   simp
   refine fL.not (by simp[a]) (by simp) ?_
   simp[a,cj,cd,o, dM]
   exact k
 ·have p:ah.isEmpty=false:=by cases k:ah.isEmpty<;>simp[k]at j|-
  have q:up.isEmpty=false:=by cases k:up.isEmpty<;>simp[k]at j|-
  simp[p]at cf;simp[q]at l;simp[b7,a,n,m,h,iP,p,q];refine eM i.h (az:=[aA ah]) (by simp[a]) (by simp) (by simp) rfl (λr b=>CX e b (by omega) cf) ?_;rintro w _ c x;have a:=c.res g;simp;refine gS c.h (az:=[aA up]) (by simp[a]) (by simp) (by simp) rfl (λr b=>CX e b (by omega) l) ?_;rintro a _ d y;have s:=(c.trans d).res g;simp;refine gS d.h (az:=[w,a]) (by simp[s]) (by simp) (by simp) rfl (λr b=>jR b (q8 e.tozg b (x.up d).of y.of (CS t) (CS u))) ?_;rintro _ _ _ ⟨rfl,rfl⟩;simp[s,cj,cd,o,jT,dM,xY,wI,QJ];exact f.trans (i.trans (c.trans d))
theorem zX(g:iO X){aj:ad}(a:K pm aj H){ie ah up co:List UInt8}{i:Bool}(h:ah.length<=10000)(j:up.length<=10000){b:Nat}{z:cz}(d:H.get b=some (.cells [aA ie,aA ah,aA up,aA co,.bool i] z)){L:bb}(f:aK 1 L=some (.pointer (some ⟨b,0,none⟩)))
 {c:Bool} (cf:c=false->ah.isEmpty=true∨isNum ah=true) (b:aK 17 L=some (.bool c)) :
 wp X pm (.ops (kd.drop 3)) L H [.seq mR,.seq hO] (rp [.slot 2] λr aa=>K pm aj aa/\r=.bool (!c&&((up.isEmpty||isNum up)&&(ah.isEmpty||(up.isEmpty||decide (rd ah<=rd up)))))):=by
 rw[show kd.drop 3=(m 18 17)::⟨(some 19),(some (18,false)),.fieldAddr 2 (.t 1)⟩::⟨(some 20),(some (18,false)),.load false 1 (.t 19)⟩::⟨(some 21),(some (18,false)),.bin .neq .bE (.t 20) (.c (.string ⟨#[]⟩))⟩::⟨(some 22),(some (18,false)),.cM (.t 21)⟩::⟨(some 23),(some (22,true)),.fieldAddr 2 (.t 1)⟩::⟨(some 24),(some (22,true)),.load false 1 (.t 23)⟩::⟨(some 25),(some (22,true)),.call F.jy [(.t 24)]⟩::B9 from rfl]
 cases c with
 | true=>
   simp[b,-hO,-eL];refine aq.not (by simp[bz]) ?_;simp[bz];exact a
 | false=>
   have cf:=cf rfl
   cases e:up.isEmpty with
   | true=>
     simp[b,f,d,iP,e,-hO,-eL];refine aq.not (by simp) ?_;simp[-hO,-eL];refine wp_mono (λ_ l aa c=>?_) (G2 g a (ie:=ie) (co:=co) (i:=i) h j cf (.inl e) d (by simp[f]));simpa [e]using c
   | false=>
     simp[b,f,d,iP,e,-hO,-eL];refine aq.of (by simp) (by simp) (uJ g a.h (l:=up) (by omega)) ?_;rintro _ _ ⟨c,rfl⟩
     cases b:isNum up with
     | true=>
       simp[-hO,-eL];refine wp_mono (λ_ l aa k=>?_) (G2 g (a.trans c) (ie:=ie) (co:=co) (i:=i) h j cf (.inr b) (c.some a.h d) (by simp[f]));simpa [e]using k
     | false=>
       simp[-hO];exact a.trans c
theorem NB(a:iO X)(g:bs pm H){c:dy}(w:c.ok):Call X pm F.og [.agg c.cells.toArray] H λr aa=>K pm H aa/\r=.bool (h6 c):=by
 obtain⟨ie,b,u,co,i⟩:=c;obtain⟨f,h,x⟩:=w;simp only at f h x;refine Call.kK a.og rfl ?_;obtain⟨j,m⟩:∃j,j=H.new (.cells [aA ie,aA b,aA u,aA co,.bool i] (.t T.JW)):=⟨_,rfl⟩;have n:K pm H j:=by rw[m];exact K.new g _
 have p:j.get H.next=some (.cells [aA ie,aA b,aA u,aA co,.bool i] (.t T.JW)):=by rw[m];exact b4
 obtain⟨j,v⟩:∃j,j=H.next:=⟨_,rfl⟩;rw[<-v]at p;simp[g.pick,g.make,ptr,dy.cells,<-m,<-v,p,-hO,-kd,-mR,-eL];refine aq.of (by simp) (by simp) (uJ a n.h (l:=co) (by omega)) ?_;rintro r _ ⟨k,rfl⟩;have d:=k.some n.h p;have q:=n.trans k;have s:kd=⟨(some 15),(some (11,true)),.un .not (.t 14)⟩::⟨(some 16),(some (7,false)),.pick (.t 11) (.t 15) (.c (.bool false))⟩::(o 17 (.pick (.t 7) (.c (.bool true)) (.t 16)))::kd.drop 3:=rfl
 cases t:isNum co with
 | false=>
   simp[bz,-hO,-kd,-mR,-eL];refine aq.not (by simp) ?_;rw[s];simp[bz,-hO,-kd,-mR,-eL,-List.drop_succ_cons];refine wp_mono (λ_ l aa e=>?_) (zX a q (ie:=ie) (co:=co) (i:=i) f h d (c:=true) (by simp) (λe=>by cases e) (by simp));simpa [h6,t]using e
 | true=>
   cases e:b.isEmpty with
   | true=>
     simp[d,iP,e,bz,-hO,-kd,-mR,-eL];refine aq.not (by simp) ?_;rw[s];simp[bz,-hO,-kd,-mR,-eL,-List.drop_succ_cons];refine wp_mono (λ_ l aa g=>?_) (zX a q (ie:=ie) (co:=co) (i:=i) f h d (c:=false) (by simp) (λ_=>.inl e) (by simp));simpa [h6,t,e]using g
   | false=>
     simp[d,iP,e, -hO,-kd,-mR,-eL];refine aq.of (by simp) (by simp) (uJ a k.h (l:=b) (by omega)) ?_;rintro r _ ⟨o,rfl⟩;rw[s];simp[-hO,-kd,-mR,-eL,-List.drop_succ_cons];refine wp_mono (λ_ l aa g=>?_) (zX a (q.trans o) (ie:=ie) (co:=co) (i:=i) f h (o.some k.h d) (c:=!isNum b) (by simp) (λg=>.inr (by simpa using g)) (by simp));simpa [h6,t,e]using g
end Go.Dam.C
namespace Go.Dam.C
open Go Go.Dam
def dq.ok(c:dq):Prop:=c.v.length<=10000
def bQ.ok(r:bQ):Prop:=r.rhs.length<=10000/\r.j.length<=1000000/\∀c∈r.j,c.ok
def hH(n:Int):Int->List dq->Bool
 | _,[]=>true
 | last,c::l=>isNum c.v&&(c.v != [48]&&(decide (last<c.af)&&(decide (c.af<n)&&hH n c.af l)))
def kq(r:bQ)(n:Int):Bool:=hH n (-1) r.j&&(isNum r.rhs&&(r.kp.isEmpty&&(decide (1<=r.kind)&&decide (r.kind<=3))))
variable{X:ar}{pm:Perm}{H aa bL:ad}
theorem K.next(k:K pm H aa):H.next<=aa.next:=aF.next k
theorem ic(g:bs pm H)(x y:bk)(a:∀o,x≠.cr o):K pm H ((H.new x).put H.next y):=aF.put (K.new g x) (bg _) b4 a y
theorem xh{α:Type}{l:List α}{k:Nat}(h:k<l.length):l.drop k=l[k]::l.drop (k+1):=List.drop_eq_getElem_cons h
theorem Sq(i:iO X){aj:ad}(c:K pm aj H){r:bQ}{bP:Value}(j:r.rhs.length<=10000){b:Nat}{z:cz}(e:H.get b=some (.cells (r.cells bP) z)){L:bb}(a:aK 2 L=some (.pointer (some ⟨b,0,none⟩))):
 wp X pm (.code so) L H [] (rp [.slot 4] λq aa=>K pm aj aa/\q=.bool (isNum r.rhs&&(r.kp.isEmpty&&(decide (1<=r.kind)&&decide (r.kind<=3))))):=by
 obtain⟨_,f,_,g,k⟩:=r;simp[a,e,bQ.cells,-eL];refine aq.of (by simp) (by simp) (uJ i c.h (l:=g) (by simp at j;omega)) ?_;rintro _ _ ⟨h,rfl⟩;have d:=h.some c.h e;have b:=c.trans h;cases c:isNum g
 ·simp[ bz];exact b
 ·cases e:k.isEmpty
  ·simp[a,d,bQ.cells,iP, e,bz];exact b
  ·by_cases c:(1:Int)<=f
   ·simp[a,d,bQ.cells,iP, e,c,Int.not_lt.2 c,];exact⟨b,by by_cases g:f<=3<;>simp[g]<;>omega⟩
   ·simp[a,d,bQ.cells,iP, e,c,Int.not_le.1 c,bz];exact b
theorem Su(t:iO X)(g:bs pm H){r:bQ}{bP:Value}{n:Nat}(E:r.ok)(G:gB H bP r.j):
 Call X pm F.oh [.agg (r.cells bP).toArray,.int .i64 (n:Int)] H λq aa=>K pm H aa/\q=.bool (kq r n):=by
 refine Call.kK t.oh rfl ?_;obtain⟨I,_,J⟩:=E;obtain⟨d,e,rfl,M⟩:=G.at;obtain⟨j,u⟩:∃j,j=H.new (.cells (r.cells (.slice d r.j.length e)) (.t T.Cd)):=⟨_,rfl⟩;have N:K pm H j:=by rw[u];exact K.new g _
 have v:j.get H.next=some (.cells (r.cells (.slice d r.j.length e)) (.t T.Cd)):=by rw[u];exact b4
 obtain⟨f,A⟩:∃f,f=H.next:=⟨_,rfl⟩;rw[<-A]at v;simp[g.pick,g.make,ptr,<-u,<-A,v,-so,-xT,-eL];simp[bQ.cells,-so,-xT,-eL]
 refine eE (σ:=Int) r.j.length (λk a=>[(1,.int .i64 (n:Int)),(2,.pointer (some ⟨f,0,none⟩)),(9,.slice d r.j.length e),(5,.int .i64 a)])
  (λk a aa=>K pm H aa/\aa.get f=some (.cells (r.cells (.slice d r.j.length e)) (.t T.Cd))/\hH n a (r.j.drop k)=hH n (-1) r.j) (-1) (by decide) (by omega) (by simp) ⟨N,v,rfl⟩ (by simp) ?_ ?_
 ·rintro k a h i ⟨w,F,m⟩;obtain⟨L,_,O,_,_,rfl,P,Q,R,c,B,rfl⟩:=M k i;rw[xh i]at m;have j:r.j[k]=c:=by rw[eu i]at B;exact jF B
  rw[j]at m;have S:c.ok:=J c (j▸x7 i);have x:=w.some g P;have b:=w.h;obtain⟨o,y⟩:∃o,o=(h.new (.cells [.int .i64 0,.string ⟨#[]⟩] (.t T.xS))).put h.next (.cells [.int .i64 c.af,aA c.v] (.t T.xS)):=⟨_,rfl⟩;have p:K pm h o:=by rw[y];exact ic b _ _ (by simp)
  have C:o.get h.next=some (.cells [.int .i64 c.af,aA c.v] (.t T.xS)):=by rw[y];exact b1
  have j:(h.new (.cells [.int .i64 0,.string ⟨#[]⟩] (.t T.xS))).get L=some O:=by rw[qk (b.lt x)];exact x
  simp[i,x,Q,R,dq.cells,b.pick,b.make,b.may (bg _),ptr,bB,<-y,C];refine aq.of (by simp) (by simp) (uJ t p.h (l:=c.v) (by have:=S;unfold dq.ok at this;omega)) ?_;rintro _ U ⟨z,rfl⟩;have q:=z.some p.h C;have D:=w.trans (p.trans z);have V:=(p.trans z).some b F;have s:hH n a (c::r.j.drop (k+1))=false->K pm H U/\kq r n=false:=λb=>⟨D,by simp[kq,<-m,b]⟩;cases i:isNum c.v
  ·simp[bz];refine s ?_;simp[hH,i]
  ·by_cases b:c.v=[48]
   ·simp[b,q,iP,bz];refine s ?_;simp[hH, b]
   ·have g:(c.v==[48])=false:=by simpa using b
    by_cases b:a<c.af
    ·by_cases h:c.af<n
     ·simp[g,b,h,q,iP,];refine⟨D,V,?_⟩;simpa [hH,bne,i,g,b,h]using m
     ·simp[g,b,h,q,iP,];refine s ?_;simp[hH,h]
    ·simp[g,b,q,iP,bz];refine s ?_;simp[hH,b]
 ·rintro a _ ⟨c,g,b⟩;simp[-so,-eL];have:=Sq t c (r:=r) I g (L:=(12,.bool false)::(11,.int .i64 (r.j.length:Int))::(10,.int .i64 (r.j.length:Int))::[(1,.int .i64 (n:Int)),(2,.pointer (some ⟨f,0,none⟩)),(9,.slice d r.j.length e),(5,.int .i64 a)]) (by simp);refine wp_mono (λ_ l aa h=>?_) this;rw[List.drop_length]at b;simpa [kq,<-b,hH]using h
end Go.Dam.C
namespace Go.Dam.C
open Go Go.Dam
variable{X:ar}{pm:Perm}{H aa bL aj:ad}{n:Nat}
theorem Sw:C.oB=C.nm:=rfl
theorem FO{d:Nat}(h:Has X d C.nm)(g:bs pm H){v:Value}{m:Nat}{R:Nat->List Value->Prop}(j:c8 H v m 5 R)(s:m<=1000000){f:FuncId}{cx cs:Array Value}(Q:Nat->Bool)
 (l:∀i aa c,i<m->R i c->K pm H aa->Call X pm f (.agg c.toArray::cs.toList) aa λr bL=>K pm aa bL/\r=.bool (Q i)):
 Call X pm d [v,.func (.func f) cx cs] H λr aa=>K pm H aa/\∃z:Int,r=.int .i64 z/\(0<=z↔∃i,i<m/\Q i=true):=by
 refine Call.kK h rfl ?_;obtain⟨n,o,rfl,p⟩:=j.at;simp[-C8,-sS,-eL];refine eE (σ:=Unit) m (λk _=>[(0,.slice n m o),(1,.func (.func f) cx cs)]) (λk _ aa=>K pm H aa/\∀i,i<k->Q i=false) () (by decide) (by omega) (by simp) ⟨K.refl g,by simp⟩ (by simp) ?_ ?_
 ·rintro k _ m a ⟨b,q⟩;obtain⟨_,_,_,_,c,rfl,d,h,j,n⟩:=p k a;simp[a,b.some g d,h,j,bB,-sS,-eL];refine q7.of (g:=f) (cx:=cx) (cs:=cs) (az:=[.agg c.toArray]) (by simp) (by simp) (by simp) (l k m c a n b) ?_;rintro _ _ ⟨e,rfl⟩;cases d:Q k
  ·simp[-sS,-eL];refine⟨b.trans e,λi _=>?_⟩;by_cases h:i=k
   ·exact h▸d
   ·exact q i (by omega)
  ·simp[-sS];exact⟨b.trans e,k,a,d⟩
 ·rintro _ _ ⟨a,b⟩;simp;exact⟨a,λi a=>b i a⟩
theorem Ms(a:iO X)(g:bs pm H){v:Value}{m:Nat}{R:Nat->List Value->Prop}(d:c8 H v m 5 R)(e:m<=1000000){f:FuncId}{cx cs:Array Value}(Q:Nat->Bool)
 (h:∀i aa c,i<m->R i c->K pm H aa->Call X pm f (.agg c.toArray::cs.toList) aa λr bL=>K pm aa bL/\r=.bool (Q i)) {t:Bool} (j:t=true↔∃i,i<m/\Q i=true):
 Call X pm F.oA [v,.func (.func f) cx cs] H λr aa=>K pm H aa/\r=.bool t:=by
 refine Call.kK a.oA rfl ?_;simp;refine aq.of (az:=[v,.func (.func f) cx cs]) (by simp) (by simp) (FO a.nm g d e Q h) ?_;rintro _ _ ⟨k,_,rfl,b⟩;rw[<-j]at b;simp;refine⟨k,?_⟩;cases t<;>simp at b|-<;>omega
theorem Mv(a:iO X)(g:bs pm H){v:Value}{m:Nat}{R:Nat->List Value->Prop}(d:c8 H v m 5 R)(e:m<=1000000){f:FuncId}{cx cs:Array Value}(Q:Nat->Bool)
 (h:∀i aa c,i<m->R i c->K pm H aa->Call X pm f (.agg c.toArray::cs.toList) aa λr bL=>K pm aa bL/\r=.bool (Q i)) {t:Bool} (j:t=true↔∃i,i<m/\Q i=true):
 Call X pm F.l3 [v,.func (.func f) cx cs] H λr aa=>K pm H aa/\r=.bool t:=by
 refine Call.kK a.l3 rfl ?_;simp;refine aq.of (az:=[v,.func (.func f) cx cs]) (by simp) (by simp) (FO (Sw▸a.oB) g d e Q h) ?_;rintro _ _ ⟨k,_,rfl,b⟩;rw[<-j]at b;simp;refine⟨k,?_⟩;cases t<;>simp at b|-<;>omega
def aI.I(ab:aI):Bool:=!(decide (100<ab.a.length)||decide (440<ab.rows.length))&&(ab.a.all h6&&ab.rows.all λr=>kq r ab.a.length)
structure aI.ok(ab:aI):Prop where
 c:ab.a.length<=20
 r:ab.rows.length<=40
 cs:∀c∈ab.a,c.ok
 rs:∀r∈ab.rows,r.ok
theorem zf(b:iO X)(g:bs pm H){v:Value}{ab:aI}(D:iL H v ab)(m:ab.ok):Call X pm F.i' [v] H λr aa=>K pm H aa/\r=.bool ab.I:=by
 refine Call.kK b.i' rfl ?_;obtain⟨_,_,rfl,d,y⟩:=D;obtain⟨q,s,rfl,_⟩:=d.at;obtain⟨u,v,rfl,_⟩:=y.at;have D:=m.c;have D:=m.r;obtain⟨n,w⟩:∃n,n=H.new (.cells [.slice q ab.a.length s,.slice u ab.rows.length v] (.t T.JU)):=⟨_,rfl⟩;have e:K pm H n:=by rw[w];exact K.new g _
 have k:n.get H.next=some (.cells [.slice q ab.a.length s,.slice u ab.rows.length v] (.t T.JU)):=by rw[w];exact b4
 obtain⟨o,z⟩:∃o,o=H.next:=⟨_,rfl⟩;rw[<-z]at k;simp[g.pick,g.make,ptr,<-w,<-z,k,-uM,-eL];by_cases l:100<ab.a.length
 ·simp[l,bz, -uM];exact⟨e,by simp[aI.I,l]⟩
 by_cases p:440<ab.rows.length
 ·simp[l,p,k,-uM];exact⟨e,by simp[aI.I,p]⟩
 have E:∀c∈ab.a,c.ok:=m.cs;have G:∀c∈ab.rows,c.ok:=m.rs;simp[l,p,k,-B6,-eL];refine aq.of (az:=[.slice q ab.a.length s,.func (.func F.oe) #[] #[]]) (by simp) (by simp;rfl) (Ms b e.h (d.ext (e.ext g)) (by omega) (f:=F.oe) (cs:=#[]) (λi=>!((ab.a[i]?.map h6).getD true)) ?_ (t:=!ab.a.all h6) ?_) ?_
 ·rintro i x cs _ ⟨c,f,rfl⟩ h;refine Call.kK b.oe rfl ?_;have g:=K.new h.h (.cells c.cells (.t T.B5));have m:(x.new (.cells c.cells (.t T.B5))).get x.next=some (.cells c.cells (.t T.B5)):=b4;simp[h.h.pick,h.h.make,ptr,bx,bB,show c.cells.length=5 from rfl];refine aq.of (az:=[.agg c.cells.toArray]) (by simp) (by simp[show c.cells.take 5=c.cells from rfl]) (NB b g.h (E c (eB f))) ?_;rintro _ A ⟨a,rfl⟩;simp[f];exact g.trans a
 ·rw[iq,Bool.eq_false_iff,Ne,eD];constructor
  ·intro f;simp only[Classical.not_forall]at f;obtain⟨c,d,g⟩:=f;obtain⟨i,f⟩:=CG d;exact⟨i,(je.1 f).1,by simp[f,g]⟩
  ·rintro⟨i,f,g⟩ m;have:=m ab.a[i] (x7 f);simp[eu f,this]at g
 rintro _ x ⟨h,rfl⟩;have j:=e.trans h;have B:=h.some e.h k;cases C:ab.a.all h6
 ·simp[bz];refine aq.not (by simp) ?_;simp[bz];exact⟨j,by simp[aI.I,C]⟩
 simp[B];refine aq.of (az:=[.slice u ab.rows.length v,.func (.func F.mP) #[] #[.pointer (some ⟨o,0,none⟩)]]) (by simp) (by simp) (Mv b j.h (y.ext (j.ext g)) (by omega) (f:=F.mP) (cs:=#[.pointer (some ⟨o,0,none⟩)]) (λi=>!((ab.rows[i]?.map λr=>kq r ab.a.length).getD true)) ?_ (t:=!ab.rows.all λr=>kq r ab.a.length) ?_) ?_
 ·rintro i A cs _ ⟨r,f,t,rfl,F⟩ a;refine Call.kK b.mP rfl ?_;have g:=K.new a.h (.cells (r.cells f) (.t T.RP));have H:=(a.trans g).some j.h B;simp[a.h.pick,a.h.make,ptr,bx,bB,show(r.cells f).length=5 from rfl,H];refine aq.of (az:=[.agg (r.cells f).toArray,.int .i64 (ab.a.length:Int)]) (by simp) (by simp[show(r.cells f).take 5=r.cells f from rfl]) (Su b g.h (G r (eB t)) (F.ext ((a.trans g).ext j.h))) ?_;rintro _ _ ⟨I,rfl⟩;simp[t];exact g.trans I
 ·rw[iq,Bool.eq_false_iff,Ne,eD];constructor
  ·intro h;simp only[Classical.not_forall]at h;obtain⟨c,d,c⟩:=h;obtain⟨i,b⟩:=CG d;exact⟨i,(je.1 b).1,by simp[b,c]⟩
  ·rintro⟨i,b,c⟩ h;have:=h ab.rows[i] (x7 b);simp[eu b,this]at c
 rintro _ A ⟨a,rfl⟩;simp;exact⟨j.trans a,by simp[aI.I,C,l,p]⟩
structure pZ(H:ad)(v:Value)(m:Nat)(P:Nat->Value->Prop):Prop where
 ex:∃base cap,v=.slice base m cap/\∀i,i<m->∃b off y row u,base=some ⟨b,off,none⟩/\H.get b=some y/\rowOf y=some row/\row[off+i]? = some u/\P i u
theorem pZ.imp{v:Value}{m:Nat}{P a:Nat->Value->Prop}(h:pZ H v m P)(b:Ext H aa)(c:∀i u,i<m->P i u->a i u):pZ aa v m a:=by
 obtain⟨a,d,e,f⟩:=h.ex;exact⟨a,d,e,λi a=>by
  obtain⟨d,e,y,g,u,h,j,k,l,m⟩:=f i a;exact⟨d,e,y,g,u,h,b _ _ j,k,l,c _ _ a m⟩⟩
def iN(H:ad)(v:Value)(l:List (List UInt8)):Prop:=pZ H v l.length λi u=>∃s,l[i]? = some s/\u=aA s
def mm(H:ad)(v:Value)(m:Nat)(x:Nat->Rat):Prop:=pZ H v m λi u=>b9 H u (x i)
theorem iN.ext{v:Value}{l:List (List UInt8)}(h:iN H v l)(a:Ext H aa):iN aa v l:=pZ.imp h a λ_ _ _=>id
theorem b9.ext{v:Value}{q:Rat}(h:b9 H v q)(a:Ext H aa):b9 aa v q:=let ⟨b,c,d⟩:=h;⟨b,c,a _ _ d⟩
theorem mm.ext{v:Value}{m:Nat}{x:Nat->Rat}(h:mm H v m x)(a:Ext H aa):mm aa v m x:=pZ.imp h a λ_ _ _ h=>h.ext a
def lg(H:ad)(v:Value)(w i:Nat)(bN:List Value):Option Nat->Prop
 | none=>i=0/\bN=[]/\v=.slice none 0 0
 | some c=>v=.slice (some ⟨c,0,none⟩) i i/\bN.length=i*w/\H.get c=some (.cells bN (.n w))
theorem lg.len{v:Value}{w i:Nat}{bN:List Value}{o:Option Nat}(g:lg H v w i bN o):bN.length=i*w:=by
 cases o with
 | none=>obtain⟨rfl,rfl,_⟩:=g;simp
 | some _=>exact g.2.1
theorem lg.ext{v:Value}{w i:Nat}{bN:List Value}{o:Option Nat}(g:lg H v w i bN o)(h:∀c y,o=some c->H.get c=some y->aa.get c=some y):lg aa v w i bN o:=by
 cases o with
 | none=>exact g
 | some c=>exact⟨g.1,g.2.1,h c _ rfl g.2.2⟩
@[simp] theorem Uv(v:Value):bx [v] 0 1=some [v]:=rfl
theorem HN(l:List Value):bx l 0 l.length=some l:=by simp[bx]
theorem zy(g:bs pm H){v:Value}{w i cc:Nat}{bN xs:List Value}{o:Option Nat}(e:lg H v w i bN o)(f:xs.all c6=true)(h:xs.length=w)(j:1<=w)(aJ:i<1000000)(m:cc<=200)(d:n<=H.next)(p:∀c,o=some c->n<=c/\pm.may c=true):
 ∃aa,(eN w cc v xs 1).run pm H=some (.slice (some ⟨H.next,0,none⟩) (i+1) (i+1),aa)/\lg aa (.slice (some ⟨H.next,0,none⟩) (i+1) (i+1)) w (i+1) (bN++xs) (some H.next)/\aF pm n H aa/\aa.next=H.next+1/\
  ∀b,b<H.next->o≠some b->aa.get b=H.get b:=by
 have a:(i+1)*cc<=17179869184:=aY (lX _ m) (by omega)
 cases o with
 | none=>
   obtain⟨rfl,rfl,rfl⟩:=e;refine⟨H.new (.cells xs (.n w)),?_,⟨rfl,by simp[h],b4⟩,aF.new (.refl g) d _,rfl,λb a _=>qk a⟩;unfold eN;simp at a;simp only[f];simp[g.make,g.pick,show cc<=17179869184 by omega,j]
 | some c=>
   obtain⟨rfl,k,l⟩:=e;obtain⟨n,o⟩:=p c rfl;have q:bx bN 0 (i*w)=some bN:=by rw[<-k];exact HN bN
   refine⟨(H.put c .dead).new (.cells (bN++xs) (.n w)),?_,⟨rfl,by simp[k,h,hS],b4⟩,aF.new (aF.put (.refl g) n l (by simp) .dead) d _,rfl,λb a d=>by rw[qk (show b<(H.put c .dead).next from a),a7 (λe=>d (by rw[e]))]⟩;unfold eN;simp only[f];simp[g.make,g.pick,a,l,q,o,j,show ¬(i+1<=i) by omega,show i+1<=17179869184 by omega]
def h1(pm:Perm)(n:Nat)(H:ad)(v:Value)(i:Nat)(x:Nat->Rat):Prop:=∃a o,lg H v 1 i a o/\(∀c,o=some c->n<=c/\pm.may c=true)/\∀j,j<i->∃p,a[j]? = some p/\b9 H p (x j)
theorem h1.nil{x:Nat->Rat}:h1 pm n H (.slice none 0 0) 0 x:=⟨[],none,⟨rfl,rfl,rfl⟩,by simp,by simp⟩
theorem h1.row{v:Value}{i:Nat}{x:Nat->Rat}(h:h1 pm n H v i x):mm H v i x:=by
 obtain⟨b,o,a,_,c⟩:=h
 cases o with
 | none=>
   obtain⟨rfl,_,rfl⟩:=a;exact⟨none,0,rfl,λi d=>absurd d (hz _)⟩
 | some d=>
   obtain⟨rfl,_,e⟩:=a;refine⟨_,_,rfl,λj a=>?_⟩;obtain⟨p,f,g⟩:=c j a;exact⟨d,0,_,b,p,rfl,e,rfl,by simpa using f,g⟩
theorem h1.k{v:Value}{i:Nat}{x:Nat->Rat}(h:h1 pm n H v i x)(g:bs pm H)(k:K pm H aa):h1 pm n aa v i x:=by
 obtain⟨a,o,b,c,d⟩:=h;exact⟨a,o,b.ext λ_ _ _ e=>k.some g e,c,λj a=>(d j a).imp λ_ q=>⟨q.1,q.2.up k⟩⟩
theorem h1.app{v:Value}{i cc:Nat}{x:Nat->Rat}(h:h1 pm n H v i x)(g:bs pm H){p:Value}{q:Rat}(b:b9 H p q)(aJ:i<1000000)(f:cc<=200)(k:n<=H.next):
 ∃aa,(eN 1 cc v [p] 1).run pm (H.new (.cells [p] (.n 1)))=some (.slice (some ⟨H.next+1,0,none⟩) (i+1) (i+1),aa)/\h1 pm n aa (.slice (some ⟨H.next+1,0,none⟩) (i+1) (i+1)) (i+1) (λj=>if j=i then q else x j)/\aF pm n H aa:=by
 obtain⟨_,_,c,l,m⟩:=h;have a:=K.new g (.cells [p] (.n 1));obtain⟨d,rfl,_⟩:=id b;obtain⟨aa,o,r,s,_,_⟩:=zy a.h (cc:=cc) (n:=n) (c.ext λt _ _ e=>a.some g e) (xs:=[.pointer (some ⟨d,0,none⟩)]) rfl rfl (bg _) aJ f (by show n<=H.next+1;omega) l;have u:=(a.mono k).trans s;refine⟨aa,o,⟨_,_,r,λt w=>?_,λj _=>?_⟩,u⟩
 ·cases w;exact⟨by show n<=H.next+1;omega,g.may (by show H.next<=H.next+1;omega)⟩
 ·have g:=c.len;by_cases e:j=i
  ·subst e;refine⟨.pointer (some ⟨d,0,none⟩),?_,by simpa using b.up u⟩;rw[hR (by omega)];simp[g]
  ·obtain⟨r,a,b⟩:=m j (by omega);exact⟨r,by rw[hi (by omega)];exact a,by simpa [e]using b.up u⟩
def fY(l:List (List UInt8))(i:Nat):Rat:=rd (l.getD i [])
theorem QM(f:iO X)(g:bs pm H){v:Value}{l:List (List UInt8)}{d:Int}(p:iN H v l)(E:l.length<1000000)(t:∀s∈l,s.length<1000000):
 Call X pm F.ke [v,.int .i64 d] H λr aa=>K pm H aa/\(l.all isNum=false/\r=.tuple #[.slice none 0 0,.bool false]∨l.all isNum=true/\∃u,r=.tuple #[u,.bool (decide ((l.length:Int)=d))]/\mm aa u l.length (fY l)):=by
 refine Call.kK f.ke rfl ?_;obtain⟨i,j,rfl,w⟩:=p.ex;simp[-Cc,-sn,-eL]
 refine eE (σ:=Value) l.length (λk u=>[(0,.slice i l.length j),(1,.int .i64 d),(6,u),(11,.slice i l.length j)])
  (λk u aa=>K pm H aa/\(l.take k).all isNum=true/\h1 pm H.next aa u k (fY l)) (.slice none 0 0) (by decide) (by omega) (by simp) ⟨K.refl g,by simp,h1.nil⟩ (by simp) ?_ ?_
 ·rintro k u _ m ⟨c,n,r⟩;obtain⟨_,_,_,_,_,rfl,v,x,y,s,e,rfl⟩:=w k m;have i:=t s (eB e);have z:l.take (k+1)=l.take k++[s]:=by rw[List.take_add_one,e];rfl
  have u:fY l k=rd s:=by simp[fY,List.getD,e]
  simp[m,c.some g v,x,y,-sn,-eL];refine aq.of (az:=[aA s]) (by simp) (by simp) (vX f.tozg c.h i) ?_;rintro _ _ ⟨a,⟨h,rfl⟩ | ⟨q,_,h,rfl,o⟩⟩
  ·simp[-sn];refine⟨c.trans a,.inl ⟨s,eB e,by simp[isNum,h]⟩⟩
  ·obtain⟨_,s,g,A⟩:=(r.k c.h a).app (cc:=8) a.h o (by omega) (by omega) (c.trans a).next;have B:fY l k=q:=by rw[u];simp[rd,h]
   have C:(λj=>if j=k then q else fY l j)=fY l:=by
    funext j;by_cases l:j=k
    ·subst l;simp[B]
    ·simp[l]
   rw[C]at g;obtain⟨_,rfl,_⟩:=id o;simp[a.h.pick,a.h.make,fill,setCells,s,-sn,-eL];rw[eD]at n;refine⟨aF.trans (c.trans a) A,λD b=>?_,g⟩;rw[z,l2]at b
   rcases b with b | b
   ·exact n D b
   ·simp at b;subst b;simp[isNum,h]
 ·rintro u _ ⟨b,a,c⟩;rw[List.take_length]at a;simp;refine⟨b,.inr ⟨by simpa using a,u,⟨rfl,?_⟩,c.row⟩⟩;by_cases h:(l.length:Int)=d<;>simp[h]
def hI:List dq->(Nat->Rat)->Rat
 | [],_=>0
 | c::l,x=>hI l x+rd c.v*x c.af.toNat
theorem N6(l:List dq)(c:dq)(x:Nat->Rat):hI (l++[c]) x=hI l x+rd c.v*x c.af.toNat:=by
 induction l with
 | nil=>simp[hI]
 | cons _ l ih=>simp only[kl,hI,ih];grind
theorem N7{l:List dq}{x:Nat->Rat}{t:Nat}(a:∀c∈l,c.ok/\aS (x c.af.toNat) t):aS (hI l x) (l.length*(t+10001)+1):=by
 induction l with
 | nil=>exact pR (by simp)
 | cons c l ih=>
   obtain⟨b,d⟩:=a c (.head _);refine en (s0 (ih λe f=>a e (.tail _ f)) (kt (jg (k:=10000) b (by decide)) d)) ?_;simp only[gu,hS];omega
structure LZ(l:List dq)(n:Nat):Prop where
 len:l.length<=1000
 all:∀c∈l,c.ok/\isNum c.v=true/\0<=c.af/\c.af<n
def aI.af(ab:aI)(i:Nat):dy:=ab.a.getD i ⟨[],[],[],[],false⟩
def a1(f:Nat->Rat):Nat->Rat
 | 0=>0
 | n+1=>a1 f n+f n
theorem vt{f:Nat->Rat}{t:Nat}:∀{n:Nat},(∀i,i<n->aS (f i) t)->aS (a1 f n) (n*(t+1)+1)
 | 0,_=>pR (by simp)
 | n+1,h=>by
   refine en (s0 (vt λi _=>h i (by omega)) (h n (by omega))) ?_;rw[hS];omega
def aI.rE(ab:aI)(x:Nat->Rat):Rat:=a1 (λi=>rd (ab.af i).cost*x i) ab.a.length
theorem aI.zW{ab:aI}{i:Nat}{c:dy}(h:ab.a[i]? = some c):ab.af i=c:=by simp[aI.af,List.getD,h]
theorem G1{c:dy}(h:h6 c=true):isNum c.cost=true:=by simp[h6]at h;exact h.1
theorem xy{ab:aI}(h:ab.I=true){c:dy}(a:c∈ab.a):h6 c=true:=by simp[aI.I]at h;exact h.2.1 c a
theorem BK{ab:aI}(h:ab.I=true){r:bQ}(a:r∈ab.rows):kq r ab.a.length=true:=by simp[aI.I]at h;exact h.2.2 r a
theorem R9{xs:List (List UInt8)}(h:∀s∈xs,s.length<=10000)(i:Nat):aS (fY xs i) 10000:=by
 unfold fY;rw[il]
 cases e:xs[i]? with
 | none=>exact jg (by simp) (by decide)
 | some s=>exact jg (h s (eB e)) (by decide)
theorem NI(e:iO X)(g:bs pm H){v w:Value}{ab:aI}{x:Nat->Rat}{t:Nat}(y:iL H v ab)(q:ab.ok)(Z:ab.I=true)(hw:mm H w ab.a.length x)(ht:t<=20000)(D:∀i,i<ab.a.length->aS (x i) t):
 Call X pm F.mS [v,w] H λr aa=>K pm H aa/\b9 aa r (ab.rE x)/\aS (ab.rE x) 700000:=by
 refine Call.kK e.mS rfl ?_;obtain⟨_,E,rfl,hc,_⟩:=y;obtain⟨s,t,rfl,ad⟩:=hc.at;obtain⟨ae,af,rfl,ag⟩:=hw.ex;have y:=q.c;have G:∀i,i<ab.a.length->aS (rd (ab.af i).cost*x i) 30000:=λi y=>by
  have a:ab.a[i]? = some (ab.af i):=by rw[aI.af,il,eu y];rfl
  exact en (kt (jg (k:=10000) (q.cs _ (eB a)).2.2 (by decide)) (D i y)) (by omega)
 have I:∀k,k<=ab.a.length->aS (a1 (λi=>rd (ab.af i).cost*x i) k) 700000:=λk b=>
  en (vt λi y=>G i (by omega)) (by omega)
 obtain⟨m,z⟩:∃m,m=H.new (.cells [.slice s ab.a.length t,E] (.t T.JX)):=⟨_,rfl⟩;have A:K pm H m:=by rw[z];exact K.new g _
 have J:m.get H.next=some (.cells [.slice s ab.a.length t,E] (.t T.JX)):=by rw[z];exact b4
 obtain⟨B,L⟩:∃B,B=H.next:=⟨_,rfl⟩;rw[<-L]at J;simp[g.pick,g.make,ptr,<-z,<-L,-Cb,-xR,-eL];refine aq.of (az:=[.int .i64 0]) (by simp) (by simp) (o0 e.tozg A.h (n:=0) (by omega) (by omega)) ?_;rintro m H2 ⟨o,y⟩;simp[o.some A.h J,-xR,-Ca,-eL]
 refine eE (σ:=Value) ab.a.length (λk u=>[(1,.slice ae ab.a.length af),(5,u),(10,.slice s ab.a.length t)])
  (λk u aa=>K pm H aa/\b9 aa u (a1 (λi=>rd (ab.af i).cost*x i) k)) m (by decide) (by omega) (by simp) ⟨A.trans o,by simpa [a1]using y⟩ (by simp) ?_ ?_
 ·rintro k u n b ⟨f,hu⟩;obtain⟨B,_,_,_,_,rfl,e2,e3,e4,F,H,rfl⟩:=ad k b;obtain⟨_,_,_,_,M,rfl,r,v,f4,f5⟩:=ag k b;have m:=eB H;have N:=G1 (xy Z m);have O:=(q.cs F m).2.2;have h:=f.h;have aa:=f.some g e2;have ab:=f.some g r;obtain⟨P,Q,R,w,S⟩:=F;simp only at O N;obtain⟨d,C⟩:∃d,d=(n.new (.cells [.string ⟨#[]⟩,.string ⟨#[]⟩,.string ⟨#[]⟩,.string ⟨#[]⟩,.bool false] (.t T.B'))).put n.next (.cells [aA P,aA Q,aA R,aA w,.bool S] (.t T.B')):=⟨_,rfl⟩;have i:K pm n d:=by rw[C];exact ic h _ _ (by simp)
  have U:d.get n.next=some (.cells [aA P,aA Q,aA R,aA w,.bool S] (.t T.B')):=by rw[C];exact b1
  have a:=i.h;have V:=i.some h ab;simp[b,aa,e3,e4,dy.cells,h.pick,h.make,h.may (bg _),ptr,bB,<-C];refine cy.of a.ah rfl ?_;have p:K pm d (d.up 11):=(K.refl a).up 11;have ah:=a.lt U;have ai:=a.lt V;simp[b7,a.none,a.J,U,b,V,v,f4];refine eM p.h (az:=[aA w]) (by simp[a.none]) (by simp) (by simp) rfl (λW j=>CX e j (by omega) N) ?_;rintro d h c f1;have m:=c.res a;simp;have aj:b9 h M (x k):=((f5.ext (f.ext g)).up i).up (p.trans c);have ak:=D k b;refine gS c.h (az:=[d,M]) (by simp[m]) (by simp) (by simp) rfl (λW j=>pY e.tozg j f1.of aj.of (CS O) (ak.bw (aY ht (by decide)))) ?_;rintro d _ l r;have h:=(K.trans c l).res a;simp;have X:=aI.zW H;have Y:=G k b;rw[X]at Y;refine gS l.h (az:=[u,d]) (by simp[h]) (by simp) (by simp) rfl (λW j=>q5 e.tozg j ((((hu.up i).up p).up c).up l).of r.of ((I k (by omega)).bw (by decide)) (Y.bw (by decide))) ?_;rintro _ _ b v;have d:=(K.trans (K.trans c l) b).res a;simp[d,cj,cd,ah,ai,jT,dM,xY];refine⟨f.trans (i.trans (p.trans (c.trans (l.trans b)))),?_⟩;simp only[a1,X];exact v
 ·rintro u H2 ⟨o,a⟩;simp;exact⟨o,a,I _ (bg _)⟩
def sh(ab:aI)(xs:List (List UInt8))(m:Nat):Bool:=xs.all isNum&&(decide (xs.length=m)&&ab.I)
def oG(ab:aI)(xs:List (List UInt8)):Option Rat:=if sh ab xs ab.a.length=true then some (ab.rE (fY xs)) else none
def s8:Option Rat->Value
 | some q=>.tuple #[aA (cZ q),.bool true]
 | none=>.tuple #[aA [],.bool false]
structure o4(xs:List (List UInt8)):Prop where
 len:xs.length<1000000
 all:∀s∈xs,s.length<=10000
theorem o4.lt{xs:List (List UInt8)}(h:o4 xs):∀s∈xs,s.length<1000000:=λs a=>cV (h.all s a) (by decide)
theorem MK(b:iO X)(g:bs pm H){v w:Value}{ab:aI}{xs:List (List UInt8)}(s:iL H v ab)(u:ab.ok)(B:iN H w xs)(k:o4 xs):
 Call X pm F.mQ [v,w] H λr aa=>K pm H aa/\r=s8 (oG ab xs):=by
 refine Call.kK b.mQ rfl ?_;have x:=s;obtain⟨_,d,rfl,C,_⟩:=s;obtain⟨e,f,rfl,_⟩:=C.at;obtain⟨h,l⟩:∃h,h=H.new (.cells [.slice e ab.a.length f,d] (.t T.JV)):=⟨_,rfl⟩;have c:K pm H h:=by rw[l];exact K.new g _
 have m:h.get H.next=some (.cells [.slice e ab.a.length f,d] (.t T.JV)):=by rw[l];exact b4
 obtain⟨h,y⟩:∃h,h=H.next:=⟨_,rfl⟩;rw[<-y]at m;simp[g.pick,g.make,ptr,<-l,<-y,m,-B8,-eL];refine aq.of (az:=[w,.int .i64 (ab.a.length:Int)]) (by simp) (by simp) (QM b c.h (B.ext (c.ext g)) k.len k.lt) ?_;rintro _ _ ⟨a,⟨n,rfl⟩ | ⟨n,D,rfl,z⟩⟩
 ·simp[bz];refine aq.not (by simp) ?_;simp[bz];exact⟨c.trans a,by simp[oG,sh,n,s8]⟩
 have A:=a.some c.h m;have o:=c.trans a;by_cases i:xs.length=ab.a.length
 ·simp[i,A,bx,bB,-B7];refine aq.of (az:=[.agg #[.slice e ab.a.length f,d]]) (by simp) (by simp) (zf b a.h (x.ext (o.ext g)) u) ?_;rintro _ _ ⟨j,rfl⟩;have p:=o.trans j;have v:=j.some a.h A;cases q:ab.I
  ·simp;exact⟨p,by simp[oG,sh,q,s8]⟩
  ·rw[i]at z;simp[v,bx,bB];refine aq.of (az:=[.agg #[.slice e ab.a.length f,d],D]) (by simp) (by simp) (NI b j.h (x.ext (p.ext g)) u q (z.ext (j.ext a.h)) (t:=10000) (by decide) λa _=>R9 k.all a) ?_;rintro a _ ⟨r,c,d⟩;simp;refine aq.of (az:=[a]) (by simp) (by simp) (tv b.tozg r.h c.of (d.bw (by decide))) ?_;rintro _ _ ⟨rfl,rfl⟩;simp;exact⟨p.trans r,by simp[oG,sh,q,n,i,s8]⟩
 ·have:¬((xs.length:Int)=(ab.a.length:Int)):=by omega
  simp[this,bz];refine aq.not (by simp) ?_;simp[bz];exact⟨o,by simp[oG,sh,i,s8]⟩
theorem Av{pm:Perm}{c:Nat}:∀{l:List Value},(∀a,.pointer (some a)∈l->a.block≠c)->du (ed pm l) [c]=true
 | [],_=>rfl
 | v::l,h=>by
   have ih:=Av (pm:=pm) (c:=c) (l:=l) λa b=>h a (.tail _ b)
   cases v with
   | pointer o=>
     cases o with
     | none=>exact ih
     | some a=>
       simp only[ed]
       cases pm.may a.block with
       | false=>exact ih
       | true=>
         simp only[cond_true,du,nc,b3];exact⟨by simp[h a (.head _)],ih⟩
   | _=>exact ih
theorem b9.ne{p:Value}{q:Rat}(h:b9 H p q){c:Nat}{cs:List Value}{z:cz}(d:H.get c=some (.cells cs z)):∀a,p=.pointer (some a)->a.block≠c:=by
 obtain⟨_,rfl,b⟩:=h;rintro a e rfl;cases e;rw[d]at b;cases b
theorem nO{p q:Value}{x y:Rat}(f:b9 H p x)(g:b9 H q y){c:Nat}{cs:List Value}{z:cz}(b:H.get c=some (.cells cs z))(m:Perm):du (ed m [p,q]) [c]=true:=Av λd a=>by
 rcases hk.1 a with e | a
 ·exact f.ne b d e.symm
 ·rcases hk.1 a with e | a
  ·exact g.ne b d e.symm
  ·cases a
theorem lz{p:Value}{x:Rat}(b:b9 H p x){c:Nat}{cs:List Value}{z:cz}(d:H.get c=some (.cells cs z))(m:Perm):du (ed m [p]) [c]=true:=Av λe a=>by
 rcases hk.1 a with c | a
 ·exact b.ne d e c.symm
 ·cases a
theorem zV{n:Nat}:∀{l:List dq} {last:Int},hH n last l=true->(∀c∈l,isNum c.v=true/\last<c.af/\c.af<n)/\(l≠[]->(l.length:Int)+last<n)
 | [],_,_=>⟨by simp,by simp⟩
 | c::l,last,h=>by
   simp only[hH,b3,df]at h;obtain⟨b,_,d,f,g⟩:=h;obtain⟨i,j⟩:=zV g;refine⟨λk a=>?_,λ_=>?_⟩
   ·rcases hk.1 a with rfl | a
    ·exact⟨b,d,f⟩
    ·obtain⟨b,_,c⟩:=i k a;exact⟨b,by omega,c⟩
   ·by_cases e:l=[]
    ·subst e;simp;omega
    ·have:=j e;simp only[gu];omega
theorem Kx{r:bQ}{n:Nat}(h:kq r n=true)(b:r.ok)(a:n<=20):LZ r.j n/\isNum r.rhs=true/\1<=r.kind/\r.kind<=3:=by
 simp only[kq,b3,df]at h;obtain⟨a,d,_,e,f⟩:=h;obtain⟨g,i⟩:=zV a;refine⟨⟨?_,λc a=>?_⟩,d,e,f⟩
 ·by_cases e:r.j=[]
  ·simp[e]
  ·have:=i e;omega
 ·obtain⟨d,_,e⟩:=g c a;exact⟨b.2.2 c a,d,by omega,e⟩
theorem Nz(c:dy)(h:h6 c=true):(c.low.isEmpty=false->isNum c.low=true)/\(c.up.isEmpty=false->isNum c.up=true):=by
 simp[h6]at h;constructor
 ·intro e
  rcases h.2.1 with a | a
  ·simp[a]at e
  ·exact a
 ·intro e
  rcases h.2.2.1 with a | a
  ·simp[a]at e
  ·exact a
theorem aI.jv{ab:aI}{i:Nat}(h:i<ab.a.length):ab.a[i]? = some (ab.af i):=by rw[aI.af,il,eu h];rfl
theorem K'(q:Rat):(ck q<0)=(q<0):=by
 unfold ck;apply propext;by_cases h:q<0
 ·simp[h]
 ·by_cases a:q=0<;>simp[h,a]
theorem hB(q:Rat):(ck q=0)=(q=0):=by
 unfold ck;apply propext;by_cases h:q<0
 ·simp only[h,if_true];exact⟨λh=>by omega,λe=>by subst e;exact absurd h qK⟩
 ·by_cases a:q=0<;>simp[h,a]
theorem Call.P{f:FuncId}{args:List Value}{R:Value->ad->Prop}{F:aZ}(a:Has X f F)(b:Nat.ble args.length F.hN=true)
 (h:∀Q:b5,(∀x l aa,rp F.res R x l aa->Q x l aa)->wp X pm (.code F.body) (p7 args 0 []) H [] Q):Call X pm f args H R:=Call.kK a b (h _ λ_ _ _=>id)
theorem HP:gH []=none:=by simp[gH,gn,iT,lD,gm]
def BF(c:dy)(d:Rat):Option Rat:=if d≠0/\(if d<0 then c.up else c.low).isEmpty=true then none else some (d*rd (if d<0 then c.up else c.low))
def dI(H:ad)(c n k:Nat)(x:Nat->Rat):Prop:=∃a,H.get c=some (.cells a (.n 1))/\a.length=n/\∀i,i<k->∃p,a[i]? = some p/\b9 H p (x i)
theorem dI.k{c k:Nat}{x:Nat->Rat}(h:dI H c n k x)(g:bs pm H)(u:K pm H aa):dI aa c n k x:=by
 obtain⟨a,b,c,d⟩:=h;exact⟨a,u.some g b,c,λi a=>(d i a).imp λ_ q=>⟨q.1,q.2.up u⟩⟩
theorem dI.put{c k m:Nat}{x:Nat->Rat}{a:List Value}(g:bs pm H)(b:m<=c)(d:H.get c=some (.cells a (.n 1)))(f:a.length=n)(h:∀i,i<k->∃p,a[i]? = some p/\b9 H p (x i)){i:Nat}(aJ:i<n){p:Value}{q:Rat}(l:b9 H p q){dd:Nat}(o:∀j,j<dd->j=i∨j<k):
 aF pm m H (H.put c (.cells (a.set i p) (.n 1)))/\dI (H.put c (.cells (a.set i p) (.n 1))) c n dd (λj=>if j=i then q else x j):=by
 have u:=aF.put (n:=m) (.refl g) b d (by simp) (.cells (a.set i p) (.n 1));refine⟨u,_,b1,by simp[f],λj k=>?_⟩;by_cases e:j=i
 ·subst e;exact⟨p,by rw[uX (by omega)],by simpa using l.up u⟩
 ·obtain⟨r,a,b⟩:=h j ((o j k).resolve_left e);exact⟨r,by rw[sz (Ne.symm e)];exact a,by simpa [e]using b.up u⟩
theorem dI.row{c cap:Nat}{x:Nat->Rat}(h:dI H c n n x):mm H (.slice (some ⟨c,0,none⟩) n cap) n x:=by
 obtain⟨a,b,_,d⟩:=h;exact⟨_,_,rfl,λi e=>by
  obtain⟨p,f,g⟩:=d i e;exact⟨c,0,_,a,p,rfl,b,rfl,by simpa using f,g⟩⟩
theorem dI.congr{c k:Nat}{x y:Nat->Rat}(h:dI H c n k x)(e:∀i,i<k->y i=x i):dI H c n k y:=by
 obtain⟨a,b,c,d⟩:=h;exact⟨a,b,c,λi a=>by rw[e i a];exact d i a⟩
def aI.row(ab:aI)(i:Nat):bQ:=ab.rows.getD i ⟨[],1,[],[],[]⟩
theorem aI.St{ab:aI}{i:Nat}{r:bQ}(h:ab.rows[i]? = some r):ab.row i=r:=by simp[aI.row,List.getD,h]
def KE(y:Rat)(d:Nat->Rat)(c:dq):Nat->Rat:=λj=>if j=c.af.toNat then d j-rd c.v*y else d j
def sO(l:List dq)(y:Rat)(d:Nat->Rat):Nat->Rat:=l.foldl (KE y) d
def d0(ab:aI)(a:Bool)(j:Nat):Rat:=if a then rd (ab.af j).cost else 0
def tZ(ab:aI)(a:Bool)(y:Nat->Rat):Nat->Nat->Rat
 | 0=>d0 ab a
 | k+1=>sO (ab.row k).j (y k) (tZ ab a y k)
def RM(ab:aI)(y:Nat->Rat)(k:Nat):Rat:=a1 (λi=>y i*rd (ab.row i).rhs) k
def yx(ab:aI)(y:Nat->Rat)(i:Nat):Bool:=!((decide ((ab.row i).kind=1)&&decide (0<y i))||(decide ((ab.row i).kind=3)&&decide (y i<0)))
def qx(ab:aI)(d:Nat->Rat)(s:Rat):Nat->Option Rat
 | 0=>some s
 | k+1=>match qx ab d s k with
   | none=>none
   | some s=>(match BF (ab.af k) (d k) with
     | none=>none
     | some q=>some (s+q))
def vo(ab:aI)(y:Nat->Rat):Nat->Bool
 | 0=>true
 | k+1=>vo ab y k&&yx ab y k
def zL(ab:aI)(a:Bool)(y:Nat->Rat):Option Rat:=if vo ab y ab.rows.length=true then qx ab (tZ ab a y ab.rows.length) (RM ab y ab.rows.length) ab.a.length else none
def rB(ab:aI)(xs:List (List UInt8))(a:Bool):Option Rat:=if sh ab xs ab.rows.length=true then zL ab a (fY xs) else none
theorem Dd{ab:aI}{y:Nat->Rat}:∀{k:Nat},vo ab y k=true↔∀i,i<k->yx ab y i=true
 | 0=>by simp[vo]
 | k+1=>by
   rw[vo,b3,Dd];constructor
   ·rintro⟨a,b⟩ i _;by_cases e:i=k
    ·exact e▸b
    ·exact a i (by omega)
   ·intro h;exact⟨λi _=>h i (by omega),h k (by omega)⟩
theorem aI.rowAt{ab:aI}{i:Nat}(h:i<ab.rows.length):ab.rows[i]? = some (ab.row i):=by rw[aI.row,il,eu h];rfl
def h0(c:Nat)(H aa:ad):Prop:=∀b x,b≠c->H.get b=some x->aa.get b=some x
theorem h0.refl{c:Nat}:h0 c H H:=λ_ _ _ h=>h
theorem h0.trans{c:Nat}(h:h0 c H aa)(g:h0 c aa bL):h0 c H bL:=λb x a e=>g b x a (h b x a e)
theorem K.Od{c:Nat}(k:K pm H aa)(g:bs pm H):h0 c H aa:=λ_ _ _ e=>k.some g e
theorem h0.put{c:Nat}{y:bk}:h0 c H (H.put c y):=λ_ _ a e=>by rw[a7 a];exact e
theorem h0.cB{c:Nat}(h:h0 c H aa){v:Value}{q:Rat}{cs:List Value}{z:cz}(a:H.get c=some (.cells cs z))(d:b9 H v q):b9 aa v q:=by
 obtain⟨b,rfl,c⟩:=d;exact⟨b,rfl,h b _ (by rintro rfl;rw[c]at a;cases a) c⟩
end Go.Dam.C
namespace Go.Dam.C
theorem ew{f g:Nat->Rat}:∀{n:Nat},(∀i,i<n->f i=g i)->a1 f n=a1 g n
 | 0,_=>rfl
 | n+1,h=>by rw[a1,a1,ew λi _=>h i (by omega),h n (by omega)]
theorem oD(f g:Nat->Rat):∀n,a1 (λi=>f i+g i) n=a1 f n+a1 g n
 | 0=>by simp[a1,na]
 | n+1=>by rw[a1,a1,a1,oD f g n];grind
theorem hY(c:Rat)(f:Nat->Rat):∀n,a1 (λi=>c*f i) n=c*a1 f n
 | 0=>by simp[a1]
 | n+1=>by rw[a1,a1,hY c f n];grind
theorem pQ{f:Nat->Rat}{n:Nat}(h:∀i,i<n->f i=0):a1 f n=0:=by
 induction n with
 | zero=>rfl
 | succ n ih=>rw[a1,ih λi _=>h i (by omega),h n (by omega),na]
theorem oE{f:Nat->Rat}{n j:Nat}(a:j<n)(h:∀i,i<n->i≠j->f i=0):a1 f n=f j:=by
 induction n with
 | zero=>omega
 | succ n ih=>
   rw[a1];by_cases e:j=n
   ·subst e;rw[pQ λi _=>h i (by omega) (by omega)];grind
   grind
theorem ma{f:Nat->Rat}{n j:Nat}(a:j<n):a1 f n=f j+a1 (λi=>if i=j then 0 else f i) n:=by
 have h:a1 f n=a1 (λi=>(if i=j then f i else 0)+(if i=j then 0 else f i)) n:=ew λi _=>by
  grind
 rw[h,oD,oE (j:=j) a λi _ a=>by simp[a]];simp
theorem Dl(f:Nat->Nat->Rat)(n:Nat):∀m,a1 (λi=>a1 (λj=>f i j) n) m=a1 (λj=>a1 (λi=>f i j) m) n
 | 0=>by simp only[a1];rw[pQ λ_ _=>rfl]
 | m+1=>by simp only[a1];rw[Dl f n m,<-oD]
theorem S7(f g:Nat->Rat)(n:Nat):a1 (λi=>f i-g i) n=a1 f n-a1 g n:=by
 have:=oD f (λi=>(-1)*g i) n;rw[hY]at this;grind
theorem Dm{f g:Nat->Rat}:∀{n:Nat},(∀i,i<n->f i<=g i)->a1 f n<=a1 g n
 | 0,_=>sE
 | n+1,h=>by
   rw[a1,a1];have a:=Dm (n:=n) λi _=>h i (by omega);grind
theorem S5{f:Nat->Rat}{n:Nat}(h:∀i,i<n->0<=f i):0<=a1 f n:=by
 have:=Dm (f:=λ_=>0) (n:=n) h;rwa [pQ λ_ _=>rfl]at this
theorem S6{f:Nat->Rat}{n j:Nat}(a:j<n)(h:∀i,i<n->0<=f i)(b:0<f j):0<a1 f n:=by
 rw[ma a];have:0<=a1 (λi=>if i=j then 0 else f i) n:=S5 λi _=>by
  grind
 grind
def dL(p:Nat->Bool)(a:Nat->Nat):Nat->Option Nat
 | 0=>none
 | k+1=>match dL p a k with
   | none=>if p k=true then some k else none
   | some b=>if p k=true/\a k<a b then some k else some b
theorem zz{p:Nat->Bool}{a:Nat->Nat}:∀{n:Nat},dL p a n=none->∀j,j<n->p j=false
 | 0,_,j,b=>absurd b (hz _)
 | n+1,h,j,_=>by
   rw[dL]at h
   cases e:dL p a n with
   | none=>
     rw[e]at h;simp only at h;by_cases a:p n=true
     ·grind
     ·by_cases a:j=n
      ·grind
      ·exact zz e j (by omega)
   | some _=>
     grind
theorem lr{p:Nat->Bool}{a:Nat->Nat}:∀{n b:Nat},dL p a n=some b->b<n/\p b=true/\∀j,j<n->p j=true->a b<=a j
 | 0,_,h=>by cases h
 | n+1,b,h=>by
   rw[dL]at h
   cases e:dL p a n with
   | none=>
     rw[e]at h;simp only at h;by_cases b:p n=true
     ·rw[aT b]at h;cases h;refine⟨by omega,b,λj _ c=>?_⟩;by_cases d:j=n
      ·subst d;exact bg _
      ·have:=zz e j (by omega);rw[this]at c;cases c
     grind
   | some _=>
     rw[e]at h;obtain⟨_,_,_⟩:=lr e;grind
section
variable{dh:Nat->Nat->Prop}{iX cJ:Nat->Nat}{L:Nat}
theorem Gp(b:∀t,t<L->∀x,dh (t+1) x↔(x=cJ t∨(dh t x/\x≠iX t))){x a:Nat}:∀d,a+d<=L->¬dh a x->dh (a+d) x->∃u,a<=u/\u<a+d/\cJ u=x
 | 0,_,a,c=>absurd c a
 | d+1,_,e,c=>by
   have c:dh (a+d+1) x:=c;rcases(b (a+d) (by omega) x).1 c with h | ⟨h,_⟩
   ·grind
   ·obtain⟨u,b,_,_⟩:=Gp b d (by omega) e h;grind
theorem Gq(b:∀t,t<L->∀x,dh (t+1) x↔(x=cJ t∨(dh t x/\x≠iX t))){x a:Nat}:∀d,a+d<=L->dh a x->¬dh (a+d) x->∃u,a<=u/\u<a+d/\iX u=x
 | 0,_,a,c=>absurd a c
 | d+1,_,e,c=>by
   have c:¬dh (a+d+1) x:=c;by_cases c:dh (a+d) x
   ·grind
   ·obtain⟨u,b,_,_⟩:=Gq b d (by omega) e c;grind
theorem IL{p:Nat->Prop}{a b:Nat}(f:a<=b)(f:p b):∃c,a<=c/\c<=b/\p c/\∀u,a<=u->u<c->¬p u:=by
 obtain⟨d,rfl⟩:∃d,b=a+d:=⟨b-a,by omega⟩
 induction d using Nat.strongRecOn with
 | _ d ih=>
   by_cases h:∃u,a<=u/\u<a+d/\p u
   ·obtain⟨u,_,_,b⟩:=h;obtain⟨e,rfl⟩:∃e,u=a+e:=⟨u-a,by omega⟩;obtain⟨c,d,_,f,g⟩:=ih e (by omega) (by omega) b;exact⟨c,d,by omega,f,g⟩
   grind
theorem zJ(d:∀t,t<L->∀x,dh (t+1) x↔(x=cJ t∨(dh t x/\x≠iX t)))(i:∀t,t<L->dh t (iX t)/\¬dh t (cJ t))
 (m:∀s t r,s<t->t<L->iX s=r->cJ t=r->(∀u,s<=u->u<=t->iX u<=r/\cJ u<=r)->(∀u,s<u->u<t->cJ u≠r)->False):
 ∀K a,(∀u,a<=u->u<a+3^K->iX u<K/\cJ u<K)->a+3^K<=L->False
 | 0,a,h,_=>absurd (h a (bg _) (by simp)).1 (hz _)
 | K+1,a,n,_=>by
   have b:3^(K+1)=3^K+3^K+3^K:=by rw[dH];omega
   have b:0<3^K:=qN (by decide);generalize o:3^K=q at*
   have j:∀b,a<=b->b+q<=a+3^(K+1)->∃u,b<=u/\u<b+q/\(iX u=K∨cJ u=K):=by
    intro b r _;apply lW;intro _;refine zJ d i m K b (λu _ a=>?_) (by rw[o];omega);rw[o]at a;obtain⟨_,_⟩:=n u (by omega) (by omega);refine⟨?_,?_⟩
    ·grind
    ·grind
   have b:∀s t,a<=s->s<t->t<a+3^(K+1)->iX s=K->cJ t=K->False:=by
    intro s t _ a b k l;obtain⟨h,_,_,o,v⟩:=IL (p:=λu=>cJ u=K) (show s+1<=t from a) l;refine m s h K (by omega) (by omega) k o (λu a h=>?_) λu a h=>v u a h;obtain⟨_,_⟩:=n u (by omega) (by omega);omega
   obtain⟨c,_,_,e⟩:=j a (bg _) (by omega);obtain⟨f,_,_,g⟩:=j (a+q) (by omega) (by omega);obtain⟨_,_,_,_⟩:=j (a+q+q) (by omega) (by omega);have k:∀t,t<L->iX t=K->¬dh (t+1) K:=λt b j r=>by
    grind
   have l:∀t,t<L->cJ t=K->dh (t+1) K:=λt b j=>(d t b K).2 (.inl j.symm);have j:∀s t,a<=s->s<t->t<a+3^(K+1)->iX s=K->(iX t=K∨cJ t=K)->False:=by
    intro s t _ _ b p h
    rcases h with h | h
    ·obtain⟨u,_,_,_⟩:=Gp d (a:=s+1) (x:=K) (t-(s+1)) (by omega) (k s (by omega) p) (by
      rw[show s+1+(t-(s+1))=t by omega,<-h];exact(i t (by omega)).1)
     grind
    ·grind
   rcases e with e | e
   ·grind
   ·rcases g with g | g
    ·grind
    ·obtain⟨u,_,_,_⟩:=Gq d (a:=c+1) (x:=K) (f-(c+1)) (by omega) (l c (by omega) e) (by
      rw[show c+1+(f-(c+1))=f by omega,<-g];exact(i f (by omega)).2)
     grind
end
structure bu where
 n:Nat
 m:Nat
 ah:Nat->Option Rat
 up:Nat->Option Rat
 A:Nat->Nat->Rat
structure bd where
 v:Nat->Rat
 rows:Nat->Nat
 a:Nat->Nat
 M:Nat->Nat->Rat
def rl(P:bu)(z:Nat->Rat):Prop:=∀i,i<P.m->z (P.n+i)=a1 (λj=>P.A i j*z j) P.n
def tu(P:bu)(T:bd)(z:Nat->Rat):Prop:=∀i,i<P.m->z (T.rows i)=a1 (λk=>T.M i k*z (T.a k)) P.n
structure dx(P:bu)(T:bd):Prop where
 r:∀i,i<P.m->T.rows i<P.n+P.m
 c:∀k,k<P.n->T.a k<P.n+P.m
 k6:∀i j,i<P.m->j<P.m->T.rows i=T.rows j->i=j
 ci:∀i j,i<P.n->j<P.n->T.a i=T.a j->i=j
 rc:∀i k,i<P.m->k<P.n->T.rows i≠T.a k
 iR:∀x,x<P.n+P.m->(∃i,i<P.m/\T.rows i=x)∨∃k,k<P.n/\T.a k=x
structure Inv(P:bu)(T:bd):Prop where
 y:dx P T
 dD:∀z,rl P z↔tu P T z
 val:rl P T.v
 sum:∀f:Nat->Rat,a1 (λk=>f (T.a k)) P.n+a1 (λi=>f (T.rows i)) P.m=a1 f P.n+a1 (λi=>f (P.n+i)) P.m
def dO(T:bd)(a af k:Nat):Rat:=if k=af then 1/T.M a af else -(T.M a k)/T.M a af
def bd.H(T:bd)(a af:Nat):bd where
 v:=T.v
 rows:=λi=>if i=a then T.a af else T.rows i
 a:=λk=>if k=af then T.rows a else T.a k
 M:=λi k=>if i=a then dO T a af k else if k=af then T.M i af*dO T a af af else T.M i k+T.M i af*dO T a af k
def fj(T:bd)(af:Nat)(q:Rat):Nat->Nat->Rat
 | 0=>λx=>if x=T.a af then T.v x+q else T.v x
 | i+1=>λx=>if x=T.rows i then fj T af q i x+T.M i af*q else fj T af q i x
def bd.e6(P:bu)(T:bd)(af:Nat)(q:Rat):bd:={T with v:=fj T af q P.m}
section
variable{P:bu}{T:bd}
theorem dx.H(h:dx P T){a af:Nat}(d:a<P.m)(f:af<P.n):dx P (T.H a af) where
 r:=λi b=>by
  show(if i=a then _ else _)<_;split
  ·exact h.c af f
  ·exact h.r i b
 c:=λk g=>by
  show(if k=af then _ else _)<_;split
  ·exact h.r a d
  ·exact h.c k g
 k6:=λi j b l e=>by
  have e:(if i=a then T.a af else T.rows i)=(if j=a then T.a af else T.rows j):=e;by_cases c:i=a<;>by_cases m:j=a<;>simp only[c,m,if_true,if_false]at e
  ·omega
  ·exact absurd e.symm (h.rc j af l f)
  ·exact absurd e (h.rc i af b f)
  ·exact h.k6 i j b l e
 ci:=λi j b l e=>by
  have e:(if i=af then T.rows a else T.a i)=(if j=af then T.rows a else T.a j):=e;by_cases c:i=af<;>by_cases m:j=af<;>simp only[c,m,if_true,if_false]at e
  ·omega
  ·exact absurd e (h.rc a j d l)
  ·exact absurd e.symm (h.rc a i d b)
  ·exact h.ci i j b l e
 rc:=λi k b g e=>by
  have e:(if i=a then T.a af else T.rows i)=(if k=af then T.rows a else T.a k):=e;by_cases c:i=a<;>by_cases j:k=af<;>simp only[c,j,if_true,if_false]at e
  ·exact absurd e.symm (h.rc a af d f)
  ·exact j (h.ci _ _ g f e.symm)
  ·exact c (h.k6 _ _ b d e)
  ·exact h.rc i k b g e
 iR:=λx n=>by
  rcases h.iR x n with⟨i,b,e⟩ | ⟨k,g,e⟩
  ·by_cases c:i=a
   ·exact .inr ⟨af,f,by show(if af=af then _ else _)=x;grind⟩
   ·exact .inl ⟨i,b,by show(if i=a then _ else _)=x;grind⟩
  ·by_cases b:k=af
   ·exact .inl ⟨a,d,by show(if a=a then _ else _)=x;grind⟩
   ·exact .inr ⟨k,g,by show(if k=af then _ else _)=x;grind⟩
theorem tu.H(_:dx P T){a af:Nat}(d:a<P.m)(j:af<P.n)(o:T.M a af≠0)(z:Nat->Rat):tu P T z↔tu P (T.H a af) z:=by
 obtain⟨p,c⟩:∃p,p=T.M a af:=⟨_,rfl⟩;have e:∀(f:Nat->Rat),a1 (λk=>f k*z ((T.H a af).a k)) P.n=f af*z (T.rows a)+a1 (λk=>if k=af then 0 else f k*z (T.a k)) P.n:=λf=>by
  rw[ma j];congr 1
  ·show f af*z (if af=af then _ else _)=_;rw[aT rfl]
  ·refine ew λk _=>?_;by_cases a:k=af
   ·simp[a]
   ·show(if k=af then 0 else f k*z (if k=af then _ else _))=_;grind
 have l:∀(f:Nat->Rat),a1 (λk=>f k*z (T.a k)) P.n=f af*z (T.a af)+a1 (λk=>if k=af then 0 else f k*z (T.a k)) P.n:=λf=>ma j;obtain⟨R,b⟩:∃R:(Nat->Rat)->Rat,∀f,R f=a1 (λk=>if k=af then 0 else f k*z (T.a k)) P.n:=⟨_,λ_=>rfl⟩;have f:R (dO T a af)=-(1/p)*R (T.M a):=by
  rw[b,b,<-hY];refine ew λk _=>?_;by_cases a:k=af
  ·grind
  ·simp only[a,if_false,dO,<-c];grind
 have m:z (T.rows a)=a1 (λk=>T.M a k*z (T.a k)) P.n↔z (T.a af)=a1 (λk=>dO T a af k*z ((T.H a af).a k)) P.n:=by
  rw[e,l,<-b,<-b,f];have f:dO T a af af=1/p:=by simp[dO,c]
  rw[f,<-c];have f:p≠0:=by rw[c];exact o
  constructor<;>intro _<;>grind
 have n:∀i,i≠a->z (T.a af)=a1 (λk=>dO T a af k*z ((T.H a af).a k)) P.n->a1 (λk=>(T.H a af).M i k*z ((T.H a af).a k)) P.n=a1 (λk=>T.M i k*z (T.a k)) P.n:=by
  intro i f c;rw[e]at c;rw[e,l,<-b];rw[<-b]at c|-;have g:(T.H a af).M i af=T.M i af*dO T a af af:=by
   show(if i=a then _ else if af=af then _ else _)=_;rw[aC f,aT rfl]
  have c:R ((T.H a af).M i)=R (T.M i)+T.M i af*R (dO T a af):=by
   rw[b,b,b,<-hY,<-oD];refine ew λk _=>?_;by_cases e:k=af
   ·grind
   ·show(if k=af then 0 else(if i=a then _ else if k=af then _ else _)*_)=_;grind
  rw[g,c];grind
 constructor
 ·intro h i q;by_cases g:i=a
  ·subst g;have:=m.1 (h i d);show z (if i=i then _ else _)=a1 (λk=>(if i=i then _ else _)*_) P.n;grind
  ·show z (if i=a then _ else _)=_;rw[aC g,n i g (m.1 (h a d))];exact h i q
 ·intro h;have b:z (T.a af)=a1 (λk=>dO T a af k*z ((T.H a af).a k)) P.n:=by
   have:=h a d;have:z (if a=a then T.a af else T.rows a)=a1 (λk=>(if a=a then dO T a af k else _)*z ((T.H a af).a k)) P.n:=this;simp only[if_true]at this;exact this
  intro i c;by_cases e:i=a
  ·grind
  ·have:=h i c;rw[n i e b]at this;have:z (if i=a then T.a af else T.rows i)=_:=this;grind
theorem Inv.H(h:Inv P T){a af:Nat}(b:a<P.m)(c:af<P.n)(d:T.M a af≠0):Inv P (T.H a af):=
 ⟨h.y.H b c,λz=>(h.dD z).trans (tu.H h.y b c d z),h.val,λf=>by
  rw[<-h.sum f,ma c,ma (f:=λk=>f (T.a k)) c,ma b,ma (f:=λi=>f (T.rows i)) b];have b:a1 (λk=>if k=af then 0 else f ((T.H a af).a k)) P.n=a1 (λk=>if k=af then 0 else f (T.a k)) P.n:=ew λk _=>by
   by_cases e:k=af
   ·simp[e]
   ·simp only[e,if_false];show f (if k=af then _ else _)=_;rw[aC e]
  have c:a1 (λi=>if i=a then 0 else f ((T.H a af).rows i)) P.m=a1 (λi=>if i=a then 0 else f (T.rows i)) P.m:=ew λk _=>by
   by_cases e:k=a
   ·simp[e]
   ·simp only[e,if_false];show f (if k=a then _ else _)=_;rw[aC e]
  rw[b,c];have b:f ((T.H a af).a af)=f (T.rows a):=by show f (if af=af then _ else _)=_;rw[aT rfl]
  have b:f ((T.H a af).rows a)=f (T.a af):=by show f (if a=a then _ else _)=_;rw[aT rfl]
  grind⟩
theorem BO(h:dx P T){af:Nat}(a:af<P.n){q:Rat}{i:Nat}(aJ:i<P.m):∀k,k<=P.m->fj T af q k (T.rows i)=if i<k then T.v (T.rows i)+T.M i af*q else T.v (T.rows i)
 | 0,_=>by simp[fj,h.rc i af aJ a]
 | k+1,_=>by
   show(if T.rows i=T.rows k then fj T af q k (T.rows i)+T.M k af*q else fj T af q k (T.rows i))=_;rw[BO h a aJ k (by omega)];by_cases e:i=k
   ·subst e;simp
   ·have:T.rows i≠T.rows k:=λa=>e (h.k6 i k aJ (by omega) a);grind
theorem Jb(h:dx P T){af:Nat}(b:af<P.n){q:Rat}{j:Nat}(a:j<P.n):∀k,k<=P.m->fj T af q k (T.a j)=if j=af then T.v (T.a j)+q else T.v (T.a j)
 | 0,_=>by
   show(if T.a j=T.a af then _ else _)=_;by_cases e:j=af
   ·simp[e]
   ·rw[aC e,aC λc=>e (h.ci j af a b c)]
 | k+1,_=>by
   show(if T.a j=T.rows k then fj T af q k (T.a j)+T.M k af*q else fj T af q k (T.a j))=_;rw[aC λe=>h.rc k j (by omega) a e.symm,Jb h b a k (by omega)]
theorem BP(h:dx P T){af:Nat}(a:af<P.n){q:Rat}{i:Nat}(aJ:i<P.m):(T.e6 P af q).v (T.rows i)=T.v (T.rows i)+T.M i af*q:=by
 have:=BO h a (q:=q) aJ P.m (bg _);rwa [aT aJ]at this
theorem r8(h:dx P T){af:Nat}(a:af<P.n){q:Rat}{j:Nat}(b:j<P.n):(T.e6 P af q).v (T.a j)=if j=af then T.v (T.a j)+q else T.v (T.a j):=Jb h a b P.m (bg _)
theorem Inv.e6(h:Inv P T){af:Nat}(a:af<P.n)(q:Rat):Inv P (T.e6 P af q):=by
 refine⟨⟨h.y.r,h.y.c,h.y.k6,h.y.ci,h.y.rc,h.y.iR⟩,h.dD,?_,h.sum⟩;refine(h.dD _).2 λi b=>?_;have c:=(h.dD _).1 h.val i b;rw[BP h.y a b,c,ma a,ma (f:=λk=>T.M i k*(T.e6 P af q).v (T.a k)) a,r8 h.y a a,aT rfl];have:a1 (λk=>if k=af then 0 else T.M i k*(T.e6 P af q).v (T.a k)) P.n=a1 (λk=>if k=af then 0 else T.M i k*T.v (T.a k)) P.n:=ew λk b=>by
  by_cases e:k=af
  ·simp[e]
  ·simp only[e,if_false,r8 h.y a b]
 grind
end
def mN(P:bu)(v:Nat->Rat)(x:Nat):Int:=match P.up x with
 | some u=>if u<v x then -1 else 0
 | none=>0
def off(P:bu)(v:Nat->Rat)(x:Nat):Int:=match P.ah x with
 | some l=>if v x<l then 1 else mN P v x
 | none=>mN P v x
def can(P:bu)(v:Nat->Rat)(x:Nat)(aG:Int):Bool:=if 0<aG then(match P.up x with
    | none=>true
    | some u=>decide (v x<u)) else(match P.ah x with
    | none=>true
    | some l=>decide (l<v x))
def js(P:bu)(v:Nat->Rat)(x:Nat):Prop:=(∀l,P.ah x=some l->l<=v x)/\∀u,P.up x=some u->v x<=u
theorem JB{P:bu}{v:Nat->Rat}{x:Nat}(h:off P v x=0):js P v x:=by
 unfold off mN at h;refine⟨λl a=>?_,λ_ _=>?_⟩
 ·rw[a]at h;simp only at h;by_cases a:v x<l
  ·rw[aT a]at h;omega
  ·exact pD.1 a
 grind
theorem sg{P:bu}{v:Nat->Rat}{x:Nat}(h:off P v x≠0):(off P v x=1/\∃l,P.ah x=some l/\v x<l)∨(off P v x=-1/\∃u,P.up x=some u/\u<v x):=by
 have a:mN P v x≠0->(mN P v x=-1/\∃u,P.up x=some u/\u<v x):=by
  unfold mN
  cases a:P.up x with
  | none=>simp
  | some u=>
    simp only;by_cases a:u<v x
    ·simp[a]
    ·simp[a]
 unfold off at h|-;grind
theorem zQ{P:bu}{v:Nat->Rat}{x:Nat}{w:Int}(a:0<w)(h:can P v x w=false):∃u,P.up x=some u/\u<=v x:=by
 unfold can at h;grind
theorem zP{P:bu}{v:Nat->Rat}{x:Nat}{w:Int}(a:¬0<w)(h:can P v x w=false):∃l,P.ah x=some l/\v x<=l:=by
 unfold can at h;grind
theorem tR{P:bu}{v:Nat->Rat}{x:Nat}{w:Int}(a:0<w)(h:can P v x w=true):∀u,P.up x=some u->v x<u:=by
 intro u _;unfold can at h;grind
theorem tQ{P:bu}{v:Nat->Rat}{x:Nat}{w:Int}(a:¬0<w)(h:can P v x w=true):∀l,P.ah x=some l->l<v x:=by
 intro _ _;unfold can at h;grind
section
variable{α:Type}(f:α->Option α)
def e5:Nat->α->Option α
 | 0,a=>some a
 | k+1,a=>match f a with
   | none=>none
   | some b=>e5 k b
def Ends(a:α):Prop:=∃k,e5 f k a=none
variable{f}
theorem Ends.next{a b:α}(h:Ends f a)(e:f a=some b):Ends f b:=by
 obtain⟨k,a⟩:=h
 cases k with
 | zero=>cases a
 | succ k=>
   rw[e5,e]at a;exact⟨k,a⟩
theorem Ends.least{a:α}(h:Ends f a):∃k,e5 f k a=none/\∀j,j<k->e5 f j a≠none:=by
 obtain⟨k,b⟩:=h;obtain⟨_,_,_,_,_⟩:=IL (p:=λk=>e5 f k a=none) (Nat.zero_le k) b;grind
open Classical in
noncomputable def left(f:α->Option α)(a:α):Nat:=if h:Ends f a then Classical.choose (Ends.least h) else 0
theorem IM{a b:α}(h:Ends f a)(e:f a=some b):left f b<left f a:=by
 have a:=h.next e;unfold left;rw[dif_pos h,dif_pos a];obtain⟨b,_⟩:=pE h.least;obtain⟨_,_⟩:=pE a.least;generalize Classical.choose h.least=n at*
 generalize Classical.choose a.least=m at*
 cases n with
 | zero=>cases b
 | succ n=>
   rw[e5,e]at b;grind
theorem KK{a:α}(h:¬Ends f a):∃c:Nat->α,c 0=a/\∀t,f (c t)=some (c (t+1)):=by
 have c:∀(k:Nat) (a:α),e5 f (k+1) a=(match e5 f k a with | none=>none | some b=>f b):=by
  intro k
  induction k with
  | zero=>intro a;cases e:f a<;>simp[e5,e]
  | succ k ih=>
    intro a;rw[e5]
    cases e:f a with
    | none=>simp only[e5,e]
    | some b=>simp only;rw[ih b];simp only[e5,e]
 have d:∀k,∃b,e5 f k a=some b:=λk=>by
  cases e:e5 f k a with
  | none=>exact absurd ⟨k,e⟩ h
  | some b=>exact⟨b,rfl⟩
 refine⟨λk=>Classical.choose (d k),?_,λt=>?_⟩
 ·have:=pE (d 0);exact(jF this).symm
 grind
end
def kv(P:bu)(T:bd):Option Nat:=dL (λi=>decide (off P T.v (T.rows i)≠0)) T.rows P.m
def kM(P:bu)(T:bd)(a:Nat)(aG:Int):Option Nat:=dL (λk=>decide (T.M a k≠0)&&can P T.v (T.a k) (aG*ck (T.M a k))) T.a P.n
def goal(P:bu)(x:Nat)(aG:Int):Rat:=if aG<0 then(P.up x).getD 0 else(P.ah x).getD 0
def qh(P:bu)(T:bd)(a af:Nat):Rat:=(goal P (T.rows a) (off P T.v (T.rows a))-T.v (T.rows a))/T.M a af
def gW(P:bu)(T:bd)(a af:Nat):bd:=(T.e6 P af (qh P T a af)).H a af
def hr(P:bu)(T:bd):Option bd:=match kv P T with
 | none=>none
 | some a=>(match kM P T a (off P T.v (T.rows a)) with
   | none=>none
   | some b=>some (gW P T a b))
def ri(P:bu)(T:bd):Prop:=∀k,k<P.n->js P T.v (T.a k)
structure nD(P:bu)(T:bd)(a af:Nat):Prop where
 eA:a<P.m
 da:af<P.n
 off:off P T.v (T.rows a)≠0
 zx:∀i,i<P.m->C.off P T.v (T.rows i)≠0->T.rows a<=T.rows i
 mT:T.M a af≠0
 can:can P T.v (T.a af) (C.off P T.v (T.rows a)*ck (T.M a af))=true
 tV:∀k,k<P.n->T.M a k≠0->C.can P T.v (T.a k) (C.off P T.v (T.rows a)*ck (T.M a k))=true->T.a af<=T.a k
theorem HD{P:bu}{T c:bd}(h:hr P T=some c):∃a af,nD P T a af/\c=gW P T a af:=by
 unfold hr at h;split at h
 ·cases h
 ·rename_i a g;split at h
  ·cases h
  ·rename_i af i;obtain⟨j,d,e⟩:=lr g;obtain⟨k,b,f⟩:=lr i;simp only[b3,df]at d e b f;exact⟨a,af,⟨j,k,d,e,b.1,b.2,λl m n o=>f l m ⟨n,o⟩⟩,(jF h).symm⟩
section
variable{P:bu}
theorem jH{q:Rat}(h:q≠0):(0<q/\ck q=1)∨(q<0/\ck q=-1):=by
 unfold ck;grind
theorem OM{x:Nat}{v w:Nat->Rat}{M:Rat}{aG:Int}(h:M≠0)(i:aG=1∨aG=-1)(c:can P v x (aG*ck M)=false)(d:js P w x):(aG:Rat)*(M*(w x-v x))<=0:=by
 have f:∀u,P.up x=some u->u<=v x->w x-v x<=0:=λu a b=>by have:=d.2 u a;grind
 have g:∀l,P.ah x=some l->v x<=l->0<=w x-v x:=λu a b=>by have:=d.1 u a;grind
 rcases jH h with⟨ez,e⟩ | ⟨ez,e⟩<;>rcases i with rfl | rfl<;>rw[e]at c
 ·obtain⟨u,a,b⟩:=zQ (by decide) c;have:=f u a b;have:0<=M*(v x-w x):=im (iu ez) (by grind);simp;grind
 ·obtain⟨u,a,b⟩:=zP (by decide) c;have:=g u a b;have:0<=M*(w x-v x):=im (iu ez) this;simp;grind
 ·obtain⟨u,a,b⟩:=zP (by decide) c;have:=g u a b;have:0<=(-M)*(w x-v x):=im (by grind) this;simp;grind
 ·obtain⟨u,a,b⟩:=zQ (by decide) c;have:=f u a b;have:0<=(-M)*(v x-w x):=im (by grind) (by grind);simp;grind
theorem Qf{x:Nat}{v w:Nat->Rat}{M:Rat}{aG:Int}(b:M≠0)(c:aG=1∨aG=-1)(f:off P w x≠0)(a:v x=goal P x (off P w x))(d:can P v x (aG*ck M)=true):(aG:Rat)*(M*(w x-v x))<=0:=by
 unfold goal at a
 rcases sg f with⟨e4,l,g',bX⟩ | ⟨e4,u,hu,bX⟩
 ·rw[e4,aC (by decide),g']at a;simp only[jf]at a;have f:w x-v x<0:=by grind
  have f:¬(aG*ck M=-1):=λh=>by
   have:=tQ (by rw[h];decide) d l g';grind
  rcases jH b with⟨ez,e⟩ | ⟨ez,e⟩<;>rcases c with rfl | rfl
  ·have:0<=M*(v x-w x):=im (iu ez) (by grind);simp;grind
  ·grind
  ·grind
  ·have:0<=(-M)*(v x-w x):=im (by grind) (by grind);simp;grind
 ·rw[e4,aT (by decide),hu]at a;simp only[jf]at a;have a:0<w x-v x:=by grind
  have g:¬(aG*ck M=1):=λh=>by
   have:=tR (by rw[h];decide) d u hu;grind
  rcases jH b with⟨ez,e⟩ | ⟨ez,e⟩<;>rcases c with rfl | rfl
  ·exact absurd (by rw[e];rfl) g
  ·have:0<=M*(w x-v x):=im (iu ez) (by grind);simp;grind
  ·have:0<=(-M)*(w x-v x):=im (by grind) (by grind);simp;grind
  grind
theorem xH{v:Nat->Rat}{x:Nat}(h:off P v x≠0):off P v x=1∨off P v x=-1:=(sg h).imp (·.1) (·.1)
theorem T6{x:Nat}{v w:Nat->Rat}(b:off P v x≠0)(a:js P w x):0<(off P v x:Rat)*(w x-v x):=by
 rcases sg b with⟨e4,l,g',bX⟩ | ⟨e4,u,hu,bX⟩
 ·rw[e4];have:=a.1 l g';simp;grind
 ·rw[e4];have:=a.2 u hu;simp;grind
def tn(P:bu):Prop:=∀x l u,P.ah x=some l->P.up x=some u->l<=u
theorem OJ(b:tn P){v w:Nat->Rat}{x:Nat}(c:off P v x≠0)(a:w x=goal P x (off P v x)):js P w x:=by
 unfold goal at a
 rcases sg c with⟨e4,l,g',bX⟩ | ⟨e4,u,hu,bX⟩
 ·rw[e4,aC (by decide),g']at a;simp only[jf]at a;refine⟨λ_ h=>?_,λu h=>?_⟩
  ·grind
  ·rw[a];exact b x l u g' h
 ·rw[e4,aT (by decide),hu]at a;simp only[jf]at a;refine⟨λl h=>?_,λ_ h=>?_⟩
  ·rw[a];exact b x l u h hu
  grind
theorem AI{T:bd}(h:Inv P T){a af:Nat}(g:nD P T a af):(gW P T a af).v (T.rows a)=goal P (T.rows a) (off P T.v (T.rows a)):=by
 show(T.e6 P af _).v (T.rows a)=_;rw[BP h.y g.da g.eA,qh];have:=g.mT;grind
theorem HE{T:bd}(h:Inv P T){a af:Nat}(g:nD P T a af):Inv P (gW P T a af):=(h.e6 g.da _).H g.eA g.da g.mT
theorem HF(c:tn P){T:bd}(h:Inv P T)(d:ri P T){a af:Nat}(g:nD P T a af):ri P (gW P T a af):=by
 intro k b;show js P (gW P T a af).v (if k=af then T.rows a else T.a k);by_cases e:k=af
 ·rw[aT e];exact OJ c g.off (AI h g)
 ·rw[aC e];have:(gW P T a af).v (T.a k)=T.v (T.a k):=by
   show(T.e6 P af _).v (T.a k)=_;rw[r8 h.y g.da b,aC e]
  obtain⟨_,_⟩:=d k b;exact⟨λl a=>by grind,λl a=>by grind⟩
structure zl(P:bu)(st:Nat->bd)(a c:Nat->Nat)(L:Nat):Prop where
 go:∀t,t<L->nD P (st t) (a t) (c t)
 hc:∀t,t<L->st (t+1)=gW P (st t) (a t) (c t)
 inv:∀t,t<=L->Inv P (st t)
 QG:∀t,t<=L->ri P (st t)
def dh(P:bu)(T:bd)(x:Nat):Prop:=∃i,i<P.m/\T.rows i=x
theorem tI{T:bd}(h:dx P T){a af:Nat}(b:a<P.m)(_:af<P.n)(x:Nat):dh P (T.H a af) x↔(x=T.a af∨(dh P T x/\x≠T.rows a)):=by
 constructor
 ·rintro⟨i,c,e⟩;have e:(if i=a then T.a af else T.rows i)=x:=e;by_cases d:i=a
  ·grind
  ·rw[aC d]at e;exact .inr ⟨⟨i,c,e⟩,λf=>d (h.k6 i a c b (e.trans f))⟩
 ·rintro(rfl | ⟨⟨i,c,rfl⟩,_⟩)
  ·exact⟨a,b,by show(if a=a then _ else _)=_;rw[aT rfl]⟩
  ·exact⟨i,c,by show(if i=a then _ else _)=_;grind⟩
theorem Je{T:bd}(h:dx P T){x:Nat}(a:x<P.n+P.m)(b:¬dh P T x):∃k,k<P.n/\T.a k=x:=(h.iR x a).resolve_left b
theorem zl.core{b:Nat->bd}{a c:Nat->Nat}{L:Nat}(R:zl P b a c L)(s t r:Nat)(C:s<t)(C:t<L)(p:(b s).rows (a s)=r)(D:(b t).a (c t)=r)
 (w:∀u,s<=u->u<=t->(b u).rows (a u)<=r/\(b u).a (c u)<=r) (E:∀u,s<u->u<t->(b u).a (c u)≠r):False:=by
 have g:=R.go s (by omega);have l:=R.go t C;have f:=R.inv s (by omega);have o:=R.inv t (by omega);have F:r<P.n+P.m:=by rw[<-p];exact f.y.r _ g.eA
 have y:∀u,u<L->∀x,x<P.n+P.m->¬dh P (b u) x->x≠(b u).a (c u)->¬dh P (b (u+1)) x/\(b (u+1)).v x=(b u).v x:=by
  intro u r x m s t;have a:=R.go u r;have i:=R.inv u (by omega);obtain⟨k,n,rfl⟩:=Je i.y m s;rw[R.hc u r];refine⟨λh=>?_,?_⟩
  ·rcases(tI (T:=(b u).e6 P (c u) _) ⟨i.y.r,i.y.c,i.y.k6,i.y.ci,i.y.rc,i.y.iR⟩ a.eA a.da _).1 h with h | ⟨h,_⟩
   ·exact t h
   ·exact s h
  ·show((b u).e6 P (c u) _).v _=_;rw[r8 i.y a.da n,aC λe=>t (by rw[e])]
 have G:∀d,s+1+d<=t->¬dh P (b (s+1+d)) r/\(b (s+1+d)).v r=goal P r (off P (b s).v r):=by
  intro d
  induction d with
  | zero=>
    intro _;have e:=R.hc s (by omega);refine⟨λh=>?_,?_⟩
    ·have h:dh P (b (s+1)) r:=h;rw[e]at h;rcases(tI (T:=(b s).e6 P (c s) _) ⟨f.y.r,f.y.c,f.y.k6,f.y.ci,f.y.rc,f.y.iR⟩ g.eA g.da _).1 h with h | ⟨_,h⟩
     ·exact f.y.rc _ _ g.eA g.da (p.trans h)
     ·exact h p.symm
    ·show(b (s+1)).v r=_;rw[e,<-p];exact AI f g
  | succ d ih=>
    intro _;obtain⟨a,c⟩:=ih (by omega);obtain⟨h,t⟩:=y (s+1+d) (by omega) r F a λe=>E _ (by omega) (by omega) e.symm;exact⟨h,t.trans c⟩
 obtain⟨z,A⟩:=G (t-(s+1)) (by omega);rw[show s+1+(t-(s+1))=t by omega]at z A;have H:∀j,r<j->j<P.n+P.m->∀d,s+d<=t->(dh P (b (s+d)) j↔dh P (b s) j)/\(¬dh P (b s) j->(b (s+d)).v j=(b s).v j):=by
  intro j _ u d
  induction d with
  | zero=>exact λ_=>⟨Iff.rfl,λ_=>rfl⟩
  | succ d ih=>
    intro _;obtain⟨r,I⟩:=ih (by omega);obtain⟨_,_⟩:=w (s+d) (by omega) (by omega);have t:=R.go (s+d) (by omega);have i:=R.inv (s+d) (by omega);have e:=R.hc (s+d) (by omega);have J:dh P (b (s+d+1)) j↔dh P (b (s+d)) j:=by
     rw[e];refine(tI (T:=(b (s+d)).e6 P (c (s+d)) _) ⟨i.y.r,i.y.c,i.y.k6,i.y.ci,i.y.rc,i.y.iR⟩ t.eA t.da _).trans ⟨λh=>?_,λh=>.inr ⟨h,?_⟩⟩
     ·rcases h with h | ⟨h,_⟩
      ·have:j=(b (s+d)).a (c (s+d)):=h;omega
      ·exact h
     ·show j≠(b (s+d)).rows (a (s+d));omega
    refine⟨J.trans r,λt=>?_⟩;exact(y (s+d) (by omega) j u (λh=>t (r.1 h)) (by omega)).2.trans (I t)
 have B:∀j,j<r->js P (b s).v j:=by
  intro j _
  rcases f.y.iR j (by omega) with⟨i,aJ,e⟩ | ⟨k,n,e⟩
  ·refine JB (lW λq=>?_);have:=g.zx i aJ (by rw[e];exact q);omega
  ·rw[<-e];exact R.QG s (by omega) k n
 obtain⟨x,m⟩:∃x,x=(b t).rows (a t):=⟨_,rfl⟩;have d:x<r:=by
  have c:=(w t (by omega) (bg _)).1;have c:x≠r:=λe=>z ⟨a t,l.eA,m.symm.trans e⟩;omega
 have v:=xH l.off;rw[<-m]at v;have q:=l.off;rw[<-m]at q;have j:=T6 q (B x d);have d:=(o.dD _).1 o.val (a t) l.eA;have j:=(o.dD _).1 f.val (a t) l.eA;rw[<-m]at d j;have f:(off P (b t).v x:Rat)*((b s).v x-(b t).v x)=a1 (λk=>(off P (b t).v x:Rat)*((b t).M (a t) k*((b s).v ((b t).a k)-(b t).v ((b t).a k)))) P.n:=by
  rw[hY,d,j,<-S7];congr 1;exact ew λk _=>by grind
 have d:a1 (λk=>(off P (b t).v x:Rat)*((b t).M (a t) k*((b s).v ((b t).a k)-(b t).v ((b t).a k)))) P.n<=0:=by
  have u:a1 (λ_=>(0:Rat)) P.n=0:=pQ λ_ _=>rfl;rw[<-u];refine Dm λk n=>?_;by_cases h:(b t).M (a t) k=0
  ·rw[h];have:(off P (b t).v x:Rat)*(0*((b s).v ((b t).a k)-(b t).v ((b t).a k)))=0:=by grind
   rw[this];exact sE
  ·have f:=o.y.c k n;by_cases d:(b t).a k=r
   ·have j:k=c t:=o.y.ci _ _ n l.da (d.trans D.symm);have a:=l.can;rw[<-m,<-j,d]at a;rw[d];exact Qf h v (by rw[<-p];exact g.off) A a
   ·by_cases g:r<(b t).a k
    ·have j:¬dh P (b t) ((b t).a k):=λ⟨i,aJ,e⟩=>o.y.rc i k aJ n e;obtain⟨c,d⟩:=H _ g f (t-s) (by omega);rw[show s+(t-s)=t by omega]at c d;rw[d λd=>j (c.2 d)];have:(off P (b t).v x:Rat)*((b t).M (a t) k*((b s).v ((b t).a k)-(b s).v ((b t).a k)))=0:=by grind
     rw[this];exact sE
    ·refine OM h v ?_ (B _ (by omega));rw[m]
     cases c:can P (b t).v ((b t).a k) (off P (b t).v ((b t).rows (a t))*ck ((b t).M (a t) k)) with
     | false=>rfl
     | true=>
       have:=l.tV k n h c;omega
 grind
theorem Ot(f:tn P){T:bd}(h:Inv P T)(i:ri P T):Ends (hr P) T:=by
 apply lW;intro h;obtain⟨a,_,i⟩:=KK h;have b:∀t,∃p:Nat×Nat,nD P (a t) p.1 p.2/\a (t+1)=gW P (a t) p.1 p.2:=λt=>by
  obtain⟨g,h,d,e⟩:=HD (i t);exact⟨(g,h),d,e⟩
 have c:∀t,Inv P (a t)/\ri P (a t):=by
  intro t
  induction t with
  | zero=>grind
  | succ t ih=>
    obtain⟨p,g,h⟩:=b t;rw[h];exact⟨HE ih.1 g,HF f ih.1 ih.2 g⟩
 have R:zl P a (λt=>(Classical.choose (b t)).1) (λt=>(Classical.choose (b t)).2) (3^(P.n+P.m)):=
  ⟨λt _=>(pE (b t)).1,λt _=>(pE (b t)).2,λt _=>(c t).1,λt _=>(c t).2⟩
 refine zJ (dh:=λt x=>dh P (a t) x) (iX:=λt=>(a t).rows ((Classical.choose (b t)).1)) (cJ:=λt=>(a t).a ((Classical.choose (b t)).2)) (λt f x=>?_) (λt f=>?_) (λs t r d e b h i j=>R.core s t r d e b h i j) (P.n+P.m) 0 (λu _ _=>?_) (by omega)
 ·have g:=R.go t f;have i:=(c t).1;have b:∀e b d,e=gW P (a t) b d->nD P (a t) b d->(dh P e x↔(x=(a t).a d∨(dh P (a t) x/\x≠(a t).rows b))):=λe b d e g=>by
   rw[e];exact tI (T:=(a t).e6 P _ _) ⟨i.y.r,i.y.c,i.y.k6,i.y.ci,i.y.rc,i.y.iR⟩ g.eA g.da x
  grind
 ·have g:=R.go t f;have k:=(c t).1;exact⟨⟨_,g.eA,rfl⟩,λ⟨j,a,e⟩=>k.y.rc j _ a g.da e⟩
 ·have g:=R.go u (by omega);have i:=(c u).1;exact⟨i.y.r _ g.eA,i.y.c _ g.da⟩
end
def e2(P:bu)(c:Nat->Rat)(x:Nat):Rat:=if x<P.n then c x else 0
def red(P:bu)(c:Nat->Rat)(T:bd)(k:Nat):Rat:=e2 P c (T.a k)+a1 (λi=>e2 P c (T.rows i)*T.M i k) P.m
def obj(P:bu)(c:Nat->Rat)(z:Nat->Rat):Rat:=a1 (λj=>c j*z j) P.n
def room(P:bu)(v:Nat->Rat)(x:Nat)(aG:Int):Option Rat:=match (if 0<aG then P.up x else none) with
 | some u=>some (u-v x)
 | none=>(match (if aG<0 then P.ah x else none) with
   | some l=>some (v x-l)
   | none=>none)
def cX(q:Rat):Rat:=if q<0 then -q else q
structure fD where
 Y:Option Rat
 ind:Option Nat
 mg:Nat
def fD.add(f:fD)(q:Rat)(i x:Nat):fD:=match f.Y with
 | none=>⟨some q,some i,x⟩
 | some p=>if q<p∨(q=p/\x<f.mg) then⟨some q,some i,x⟩ else f
def dn(P:bu)(T:bd)(af:Nat)(aG:Int):Nat->fD
 | 0=>⟨room P T.v (T.a af) aG,none,T.a af⟩
 | i+1=>if T.M i af=0 then dn P T af aG i else match room P T.v (T.rows i) (aG*ck (T.M i af)) with
   | none=>dn P T af aG i
   | some r=>(dn P T af aG i).add (r/cX (T.M i af)) i (T.rows i)
def enters(P:bu)(c:Nat->Rat)(T:bd):Option Nat:=dL (λk=>decide (red P c T k≠0)&&can P T.v (T.a k) (-ck (red P c T k))) T.a P.n
def hp(P:bu)(c:Nat->Rat)(T:bd)(af:Nat):Int:=-ck (red P c T af)
def gU(P:bu)(T:bd)(af:Nat)(aG:Int)(q:Rat):Option Nat->bd
 | none=>T.e6 P af (if aG<0 then -q else q)
 | some a=>(T.e6 P af (if aG<0 then -q else q)).H a af
def gk(P:bu)(c:Nat->Rat)(T:bd):Option bd:=match enters P c T with
 | none=>none
 | some a=>(match (dn P T a (hp P c T a) P.m).Y with
   | none=>none
   | some q=>some (gU P T a (hp P c T a) q (dn P T a (hp P c T a) P.m).ind))
section
variable{P:bu}{c:Nat->Rat}{T:bd}
theorem xG(h:Inv P T){z:Nat->Rat}(b:rl P z):obj P c z=a1 (λk=>red P c T k*z (T.a k)) P.n:=by
 have a:=h.sum λx=>e2 P c x*z x;have d:a1 (λx=>e2 P c x*z x) P.n=obj P c z:=ew λ_ e=>by simp[e2,e]
 have e:a1 (λi=>e2 P c (P.n+i)*z (P.n+i)) P.m=0:=pQ λi _=>by
  have:¬P.n+i<P.n:=by omega
  simp[e2,this,Rat.zero_mul]
 rw[d,e]at a;have d:a1 (λi=>e2 P c (T.rows i)*z (T.rows i)) P.m=a1 (λk=>a1 (λi=>e2 P c (T.rows i)*T.M i k) P.m*z (T.a k)) P.n:=by
  have:a1 (λi=>e2 P c (T.rows i)*z (T.rows i)) P.m=a1 (λi=>a1 (λk=>e2 P c (T.rows i)*T.M i k*z (T.a k)) P.n) P.m:=ew λi e=>by
   rw[(h.dD z).1 b i e,<-hY];exact ew λk _=>by grind
  rw[this,Dl];refine ew λk _=>?_;have:a1 (λi=>e2 P c (T.rows i)*T.M i k*z (T.a k)) P.m=a1 (λi=>z (T.a k)*(e2 P c (T.rows i)*T.M i k)) P.m:=ew λi _=>by grind
  rw[this,hY];grind
 rw[d,<-oD]at a;have a:a1 (λk=>e2 P c (T.a k)*z (T.a k)+a1 (λi=>e2 P c (T.rows i)*T.M i k) P.m*z (T.a k)) P.n=a1 (λk=>red P c T k*z (T.a k)) P.n:=ew λk _=>by
  unfold red;grind
 grind
theorem N3{a b:Rat}(c:0<=a)(c:0<b):0<=a/b:=by
 apply pD.1;intro _;have d:0<(-(a/b))*b:=Rat.mul_pos (by grind) c;have:a/b*b=a:=by grind
 grind
theorem jt{q:Rat}(h:q≠0):0<cX q:=by
 unfold cX;grind
theorem vg{v:Nat->Rat}{x:Nat}{r:Rat}(h:room P v x 1=some r):∃u,P.up x=some u/\r=u-v x:=by
 unfold room at h;grind
theorem vf{v:Nat->Rat}{x:Nat}{r:Rat}(h:room P v x (-1)=some r):∃l,P.ah x=some l/\r=v x-l:=by
 unfold room at h;grind
theorem C2{v:Nat->Rat}{x:Nat}{u:Rat}(h:P.up x=some u):room P v x 1=some (u-v x):=by
 unfold room;simp[h]
theorem C1{v:Nat->Rat}{x:Nat}{l:Rat}(h:P.ah x=some l):room P v x (-1)=some (v x-l):=by
 unfold room;simp[h]
theorem Kt{v:Nat->Rat}{x:Nat}{w:Int}(b:w=1∨w=-1)(a:js P v x){r:Rat}(h:room P v x w=some r):0<=r:=by
 rcases b with rfl | rfl
 ·obtain⟨u,c,rfl⟩:=vg h;have:=a.2 u c;grind
 ·obtain⟨u,c,rfl⟩:=vf h;have:=a.1 u c;grind
structure v'(P:bu)(T:bd)(af:Nat)(aG:Int)(k:Nat)(f:fD):Prop where
 xC:f.Y=none->room P T.v (T.a af) aG=none/\∀i,i<k->T.M i af≠0->room P T.v (T.rows i) (aG*ck (T.M i af))=none
 own:f.ind=none->f.Y=room P T.v (T.a af) aG/\f.mg=T.a af
 row:∀a,f.ind=some a->a<k/\T.M a af≠0/\f.mg=T.rows a/\∃r,room P T.v (T.rows a) (aG*ck (T.M a af))=some r/\f.Y=some (r/cX (T.M a af))
 xA:∀q,f.Y=some q->∀r,room P T.v (T.a af) aG=some r->q<=r/\(q=r->f.mg<=T.a af)
 min:∀q,f.Y=some q->∀i,i<k->T.M i af≠0->∀r,room P T.v (T.rows i) (aG*ck (T.M i af))=some r->q<=r/cX (T.M i af)/\(q=r/cX (T.M i af)->f.mg<=T.rows i)
theorem BG(P:bu)(T:bd)(af:Nat)(aG:Int):∀k,v' P T af aG k (dn P T af aG k)
 | 0=>by
   refine⟨λh=>⟨h,λi a=>absurd a (hz _)⟩,λ_=>⟨rfl,rfl⟩,λ_ h=>(by cases h),λq h _ b=>?_,λq h i a=>absurd a (hz _)⟩;have h:room P T.v (T.a af) aG=some q:=h;rw[h]at b;cases b;exact⟨sE,λ_=>bg _⟩
 | k+1=>by
   have ih:=BG P T af aG k;generalize m:dn P T af aG k=f at ih;have t:(∀r,T.M k af≠0->room P T.v (T.rows k) (aG*ck (T.M k af))=some r->∃q,f.Y=some q/\q<=r/cX (T.M k af)/\(q=r/cX (T.M k af)->f.mg<=T.rows k))->v' P T af aG (k+1) f:=λ_=>by
    refine⟨λh=>⟨(ih.xC h).1,λi c b=>?_⟩,ih.own,λd e=>?_,ih.xA,λq g i c b r a=>?_⟩
    ·by_cases j:i=k
     ·subst j
      cases a:room P T.v (T.rows i) (aG*ck (T.M i af)) with
      | none=>rfl
      | some r=>
        grind
     ·exact(ih.xC h).2 i (by omega) b
    ·obtain⟨_,_⟩:=ih.row d e;grind
    ·by_cases e:i=k
     ·grind
     ·exact ih.min q g i (by omega) b r a
   rw[dn,m];by_cases b:T.M k af=0
   ·grind
   ·rw[aC b]
    cases g:room P T.v (T.rows k) (aG*ck (T.M k af)) with
    | none=>grind
    | some r=>
      obtain⟨q,c⟩:∃q,q=r/cX (T.M k af):=⟨_,rfl⟩;simp only[<-c];have m:(∀p,f.Y=some p->q<p∨(q=p/\T.rows k<f.mg))->v' P T af aG (k+1) ⟨some q,some k,T.rows k⟩:=λj=>by
       refine⟨λh=>(by cases h),λh=>(by cases h),λ_ n=>?_,λm h d a=>?_,λm h i _ l d a=>?_⟩
       ·cases n;exact⟨by omega,b,rfl,r,g,by rw[c]⟩
       ·cases h
        cases e:f.Y with
        | none=>rw[(ih.xC e).1]at a;cases a
        | some p=>
          obtain⟨_,o⟩:=ih.xA p e d a
          rcases j p e with b | ⟨b,_⟩
          ·exact⟨by grind,λ_=>by grind⟩
          ·exact⟨by grind,λ_=>by have:=o (by grind);show T.rows k<=_;omega⟩
       ·cases h;by_cases o:i=k
        ·subst o;rw[g]at a;cases a;rw[<-c];exact⟨sE,λ_=>bg _⟩
        ·cases e:f.Y with
         | none=>rw[(ih.xC e).2 i (by omega) l]at a;cases a
         | some p=>
           obtain⟨_,s⟩:=ih.min p e i (by omega) l d a
           rcases j p e with a | ⟨a,_⟩
           ·exact⟨by grind,λ_=>by grind⟩
           ·exact⟨by grind,λ_=>by have:=s (by grind);show T.rows k<=_;omega⟩
      unfold fD.add;grind
structure gb(P:bu)(c:Nat->Rat)(T:bd)(af:Nat)(aG:Int)(f:fD)(q:Rat):Prop where
 da:af<P.n
 d:red P c T af≠0
 pV:aG=-ck (red P c T af)
 can:can P T.v (T.a af) aG=true
 tV:∀k,k<P.n->red P c T k≠0->C.can P T.v (T.a k) (-ck (red P c T k))=true->T.a af<=T.a k
 G:v' P T af aG P.m f
 Y:f.Y=some q
theorem Hb{b:bd}(h:gk P c T=some b):∃af aG f q,gb P c T af aG f q/\b=gU P T af aG q f.ind:=by
 unfold gk at h;split at h
 ·cases h
 ·rename_i af d;split at h
  ·cases h
  ·rename_i q e;obtain⟨f,a,c⟩:=lr d;simp only[b3,df]at a c;exact⟨af,_,_,q,⟨f,a.1,rfl,a.2,λk g i j=>c k g ⟨i,j⟩,BG P T af _ P.m,e⟩,(jF h).symm⟩
def th(P:bu)(T:bd):Prop:=∀x,x<P.n+P.m->js P T.v x
theorem gb.gx{af:Nat}{aG:Int}{f:fD}{q:Rat}(g:gb P c T af aG f q):aG=1∨aG=-1:=by
 rw[g.pV]
 rcases jH g.d with⟨_,e⟩ | ⟨_,e⟩<;>rw[e]<;>simp
theorem vn{aG:Int}(a:aG=1∨aG=-1){M:Rat}(b:M≠0):(aG*ck M=1/\(aG:Rat)*M=cX M)∨(aG*ck M=-1/\(aG:Rat)*M=-cX M):=by
 unfold cX
 rcases jH b with⟨ez,e⟩ | ⟨ez,e⟩<;>rcases a with rfl | rfl<;>rw[e]
 ·left;rw[aC (by grind)];refine⟨by decide,?_⟩;simp;try grind
 ·right;rw[aC (by grind)];refine⟨by decide,?_⟩;simp;try grind
 ·right;rw[aT ez];refine⟨by decide,?_⟩;simp;try grind
 grind
theorem yy{aG:Int}(a:aG=1∨aG=-1){M:Rat}(b:M≠0):aG*ck M=1∨aG*ck M=-1:=(vn a b).imp (·.1) (·.1)
theorem LK{aG:Int}(a:aG=1∨aG=-1)(q:Rat):(if aG<0 then -q else q)=(aG:Rat)*q:=by
 rcases a with rfl | rfl
 ·simp
 ·simp;grind
theorem gb.Cu(a:th P T)(h:dx P T){af:Nat}{aG:Int}{f:fD}{q:Rat}(g:gb P c T af aG f q):0<=q:=by
 cases b:f.ind with
 | none=>
   have:=(g.G.own b).1;rw[g.Y]at this;exact Kt g.gx (a _ (h.c _ g.da)) this.symm
 | some e=>
   obtain⟨f,c,_,_,i,d⟩:=g.G.row e b;rw[g.Y]at d;cases d;have:=Kt (yy g.gx c) (a _ (h.r _ f)) i;exact N3 this (jt c)
theorem gb.vx(h:dx P T){af:Nat}{aG:Int}{f:fD}{q:Rat}(g:gb P c T af aG f q){k:Nat}(a:k<P.n):(gU P T af aG q f.ind).v (T.a k)=if k=af then T.v (T.a k)+(aG:Rat)*q else T.v (T.a k):=by
 have:(gU P T af aG q f.ind).v=(T.e6 P af (if aG<0 then -q else q)).v:=by cases f.ind<;>rfl
 rw[this,r8 h g.da a,LK g.gx]
theorem gb.LH(h:dx P T){af:Nat}{aG:Int}{f:fD}{q:Rat}(g:gb P c T af aG f q){i:Nat}(aJ:i<P.m):(gU P T af aG q f.ind).v (T.rows i)=T.v (T.rows i)+(aG:Rat)*T.M i af*q:=by
 have:(gU P T af aG q f.ind).v=(T.e6 P af (if aG<0 then -q else q)).v:=by cases f.ind<;>rfl
 rw[this,BP h g.da aJ,LK g.gx];grind
theorem gb.inv(h:Inv P T){af:Nat}{aG:Int}{f:fD}{q:Rat}(g:gb P c T af aG f q):Inv P (gU P T af aG q f.ind):=by
 cases a:f.ind with
 | none=>exact h.e6 g.da _
 | some b=>
   obtain⟨c,d,_⟩:=g.G.row b a;exact(h.e6 g.da _).H c g.da d
theorem gb.AH(h:Inv P T)(b:th P T){af:Nat}{aG:Int}{f:fD}{q:Rat}(g:gb P c T af aG f q):th P (gU P T af aG q f.ind):=by
 have f:=g.Cu b h.y;intro x j
 rcases h.y.iR x j with⟨i,aJ,rfl⟩ | ⟨k,kN,rfl⟩
 ·have c:=b _ (h.y.r i aJ);unfold js;rw[g.LH h.y aJ];by_cases a:T.M i af=0
  ·rw[a];have:T.v (T.rows i)+(aG:Rat)*0*q=T.v (T.rows i):=by grind
   rw[this];exact c
  ·have d:=jt a;have e:0<=cX (T.M i af)*q:=im (iu d) f
   rcases vn g.gx a with⟨e4,cq⟩ | ⟨e4,cq⟩<;>rw[cq]
   ·refine⟨λl e=>by have:=c.1 l e;grind,λu e=>?_⟩;have f:=C2 (v:=T.v) e;have:=(g.G.min q g.Y i aJ a _ (by rw[e4];exact f)).1;have:cX (T.M i af)*q<=cX (T.M i af)*((u-T.v (T.rows i))/cX (T.M i af)):=sF this (iu d);have e:cX (T.M i af)*((u-T.v (T.rows i))/cX (T.M i af))=u-T.v (T.rows i):=by
     have:cX (T.M i af)≠0:=by grind
     grind
    grind
   ·refine⟨λl e=>?_,λu f=>by have:=c.2 u f;grind⟩;have c:=C1 (v:=T.v) e;have:=(g.G.min q g.Y i aJ a _ (by rw[e4];exact c)).1;have:cX (T.M i af)*q<=cX (T.M i af)*((T.v (T.rows i)-l)/cX (T.M i af)):=sF this (iu d);have e:cX (T.M i af)*((T.v (T.rows i)-l)/cX (T.M i af))=T.v (T.rows i)-l:=by
     have:cX (T.M i af)≠0:=by grind
     grind
    grind
 ·have a:=b _ (h.y.c k kN);unfold js;rw[g.vx h.y kN];by_cases e:k=af
  ·subst e;simp only[if_true]
   rcases g.gx with rfl | rfl
   ·refine⟨λl b=>by have:=a.1 l b;simp;grind,λ_ b=>?_⟩;have:=(g.G.xA q g.Y _ (C2 b)).1;simp;grind
   ·refine⟨λ_ b=>?_,λu c=>by have:=a.2 u c;simp;grind⟩;have:=(g.G.xA q g.Y _ (C1 b)).1;simp;grind
  ·simp only[e,if_false];exact a
theorem gb.obj(h:Inv P T){af:Nat}{aG:Int}{f:fD}{q:Rat}(g:gb P c T af aG f q):C.obj P c (gU P T af aG q f.ind).v=C.obj P c T.v-cX (red P c T af)*q:=by
 rw[xG h (g.inv h).val,xG h h.val,ma g.da,ma (f:=λk=>red P c T k*T.v (T.a k)) g.da,g.vx h.y g.da,aT rfl];have e:a1 (λk=>if k=af then 0 else red P c T k*(gU P T af aG q f.ind).v (T.a k)) P.n=a1 (λk=>if k=af then 0 else red P c T k*T.v (T.a k)) P.n:=ew λk a=>by
  by_cases e:k=af
  ·simp[e]
  ·simp only[e,if_false,g.vx h.y a]
 rw[e];have:red P c T af*(aG:Rat)=-cX (red P c T af):=by
  rw[g.pV];unfold cX
  rcases jH g.d with⟨ez,e⟩ | ⟨ez,e⟩<;>rw[e]
  ·grind
  ·grind
 grind
end
section
variable{P:bu}{c:Nat->Rat}
structure q9(P:bu)(c:Nat->Rat)(T:bd)(a af:Nat)(aG:Int):Prop where
 eA:a<P.m
 da:af<P.n
 mT:T.M a af≠0
 d:red P c T af≠0
 pV:aG=-ck (red P c T af)
 can:can P T.v (T.a af) aG=true
 tV:∀k,k<P.n->red P c T k≠0->C.can P T.v (T.a k) (-ck (red P c T k))=true->T.a af<=T.a k
 zero:room P T.v (T.rows a) (aG*ck (T.M a af))=some 0
 zx:∀i,i<P.m->T.M i af≠0->room P T.v (T.rows i) (aG*ck (T.M i af))=some 0->T.rows a<=T.rows i
theorem q9.gx{T:bd}{a af:Nat}{aG:Int}(g:q9 P c T a af aG):aG=1∨aG=-1:=by
 rw[g.pV]
 rcases jH g.d with⟨_,e⟩ | ⟨_,e⟩<;>rw[e]<;>simp
theorem gb.NX{T:bd}{af:Nat}{aG:Int}{f:fD}(g:gb P c T af aG f 0):∃a,f.ind=some a/\q9 P c T a af aG:=by
 cases b:f.ind with
 | none=>
   exfalso;have h:=(g.G.own b).1;rw[g.Y]at h;have a:=g.can
   rcases g.gx with rfl | rfl
   ·obtain⟨u,c,_⟩:=vg h.symm;have:=tR (by decide) a u c;grind
   ·obtain⟨u,c,_⟩:=vf h.symm;have:=tQ (by decide) a u c;grind
 | some a=>
   obtain⟨e,c,_,r,f,d⟩:=g.G.row a b;rw[g.Y]at d;have b:=jt c;have h:r=0:=by
    have:(0:Rat)=r/cX (T.M a af):=jF d;have b:cX (T.M a af)≠0:=by grind
    grind
   refine⟨a,rfl,e,g.da,c,g.d,g.pV,g.can,g.tV,by rw[f,h],λi c b h=>?_⟩;have d:=(g.G.min 0 g.Y i c b 0 h).2 (by
    have:=jt b;have:cX (T.M i af)≠0:=by grind
    grind)
   grind
theorem Kv{v:Nat->Rat}{x:Nat}{w:Int}(a:w=1∨w=-1)(h:room P v x w=some 0):(w=1/\P.up x=some (v x))∨(w=-1/\P.ah x=some (v x)):=by
 rcases a with rfl | rfl
 ·obtain⟨_,_,_⟩:=vg h;grind
 ·obtain⟨_,_,_⟩:=vf h;grind
def qd(P:bu)(T:bd)(af:Nat)(aG:Int)(x:Nat):Rat:=if x=T.a af then(aG:Rat) else a1 (λi=>if T.rows i=x then T.M i af*(aG:Rat) else 0) P.m
theorem qe{T:bd}(h:dx P T){af:Nat}{aG:Int}(b:af<P.n){k:Nat}(a:k<P.n):qd P T af aG (T.a k)=if k=af then(aG:Rat) else 0:=by
 unfold qd;by_cases e:k=af
 ·subst e;simp
 ·have:T.a k≠T.a af:=λc=>e (h.ci k af a b c);rw[aC this,aC e,pQ λi b=>by rw[aC (h.rc i k b a)]]
theorem Au{T:bd}(h:dx P T){af:Nat}{aG:Int}(a:af<P.n){i:Nat}(aJ:i<P.m):qd P T af aG (T.rows i)=T.M i af*(aG:Rat):=by
 unfold qd;rw[aC (h.rc i af aJ a),oE (j:=i) aJ λj a b=>by rw[aC λe=>b (h.k6 j i a aJ e)],aT rfl]
theorem Hc{T:bd}(h:Inv P T){af:Nat}{aG:Int}(a:af<P.n):rl P (qd P T af aG):=(h.dD _).2 λ_ b=>by
 rw[Au h.y a b,oE (j:=af) a λ_ b c=>by rw[qe h.y a b,aC c,ow],qe h.y a a,aT rfl]
theorem N2{T:bd}(h:Inv P T){af:Nat}{aG:Int}(a:af<P.n):obj P c (qd P T af aG)=red P c T af*(aG:Rat):=by
 rw[xG h (Hc h a),oE (j:=af) a λ_ b c=>by rw[qe h.y a b,aC c,ow],qe h.y a a,aT rfl]
structure zm(P:bu)(c:Nat->Rat)(st:Nat->bd)(a dE:Nat->Nat)(w:Nat->Int)(L:Nat)(v:Nat->Rat):Prop where
 go:∀t,t<L->q9 P c (st t) (a t) (dE t) (w t)
 hc:∀t,t<L->(st (t+1)).rows=((st t).H (a t) (dE t)).rows
 inv:∀t,t<=L->Inv P (st t)
 AH:∀x,x<P.n+P.m->js P v x
 val:∀t,t<=L->∀x,x<P.n+P.m->(st t).v x=v x
theorem wE{v w:Nat->Rat}{x:Nat}{s:Int}(h:v x=w x):can P v x s=can P w x s:=by simp only[can,h]
theorem Sm{v w:Nat->Rat}{x:Nat}{s:Int}(h:v x=w x):room P v x s=room P w x s:=by simp only[room,h]
theorem Gr{T:bd}(h:dx P T){a af:Nat}(c:a<P.m)(d:af<P.n){b:bd}(e:b.rows=(T.H a af).rows)(x:Nat):dh P b x↔(x=T.a af∨(dh P T x/\x≠T.rows a)):=by
 rw[<-tI h c d x];unfold dh;rw[e]
theorem zm.core{b:Nat->bd}{a g:Nat->Nat}{w:Nat->Int}{L:Nat}{v:Nat->Rat}(R:zm P c b a g w L v)(s t r:Nat)(N:s<t)(N:t<L)(p:(b s).rows (a s)=r)(x:(b t).a (g t)=r)
 (H:∀u,s<=u->u<=t->(b u).rows (a u)<=r/\(b u).a (g u)<=r):False:=by
 have d:=R.go s (by omega);have l:=R.go t N;have h:=R.inv s (by omega);have y:=R.inv t (by omega);have A:=d.gx;have O:∀j,r<j->∀i,s+i<=t->(dh P (b (s+i)) j↔dh P (b s) j):=by
  intro j _ i
  induction i with
  | zero=>grind
  | succ i ih=>
    intro _;obtain⟨_,_⟩:=H (s+i) (by omega) (by omega);have a:=R.go (s+i) (by omega);have c:=R.inv (s+i) (by omega);refine((Gr c.y a.eA a.da (R.hc (s+i) (by omega)) j).trans ⟨λa=>?_,λa=>.inr ⟨a,by omega⟩⟩).trans (ih (by omega));grind
 obtain⟨W,m⟩:∃W,W=qd P (b s) (g s) (w s):=⟨_,rfl⟩;have Q:rl P W:=m▸Hc h d.da;have I:obj P c W<0:=by
  rw[m,N2 h d.da,d.pV]
  rcases jH d.d with⟨ez,e⟩ | ⟨ez,e⟩<;>rw[e]
  ·simp;grind
  ·simp;grind
 rw[xG y Q]at I;have i:(b s).a (g s)<r:=by
  have:=(H s (bg _) (by omega)).2;have a:(b s).a (g s)≠r:=λe=>h.y.rc _ _ d.eA d.da (p.trans e.symm);omega
 have D:=R.val s (by omega);have E:=R.val t (by omega);have F:r<P.n+P.m:=by rw[<-p];exact h.y.r _ d.eA
 have J:W r=(b s).M (a s) (g s)*(w s:Rat):=by rw[m,<-p];exact Au h.y d.da d.eA
 have K:=vn A d.mT;have n:=Kv (yy A d.mT) d.zero;rw[p,D r F]at n;refine absurd (S6 (f:=λk=>red P c (b t) k*W ((b t).a k)) l.da (λk B=>?_) ?_) (pD.2 (iu I))
 ·have f:=y.y.c k B;by_cases G:red P c (b t) k=0
  ·simp_all
  by_cases i:r<(b t).a k
  ·have c:¬dh P (b t) ((b t).a k):=λ⟨o,u,e⟩=>y.y.rc o k u B e;have a:=O _ i (t-s) (by omega);rw[show s+(t-s)=t by omega]at a;obtain⟨L,C,i⟩:=Je h.y f λq=>c (a.2 q);have:W ((b t).a k)=0:=by
    rw[m,<-i,qe h.y d.da C,aC];rintro rfl;omega
   simp_all
  ·by_cases i:(b t).a k=r
   ·have v:k=g t:=y.y.ci _ _ B l.da (i.trans x.symm);have q:=l.can;rw[x,l.pV,<-v]at q;rw[wE (E r F)]at q;show 0<=red P c (b t) k*W ((b t).a k);rw[i,J,sx ((b s).M (a s) (g s))]
    rcases jH G with⟨ez,e⟩ | ⟨ez,e⟩<;>rw[e]at q<;>rcases K with⟨s1,s2⟩ | ⟨s1,s2⟩<;>rw[s1]at n
    ·have:=im (iu ez) (iu (jt d.mT));grind
    ·rcases n with⟨z,_⟩ | ⟨_,z⟩
     ·cases z
     ·have:=tQ (by decide) q _ z;grind
    ·rcases n with⟨_,z⟩ | ⟨z,_⟩
     ·have:=tR (by decide) q _ z;grind
     ·cases z
    ·have a:0<=-red P c (b t) k:=by grind
     have:=im a (iu (jt d.mT));rw[s2];grind
   ·have S:(b t).a k<r:=by omega
    have a:can P (b t).v ((b t).a k) (-ck (red P c (b t) k))=false:=by
     cases e:can P (b t).v ((b t).a k) (-ck (red P c (b t) k)) with
     | false=>rfl
     | true=>have:=l.tV k B G e;omega
    rw[wE (E _ f)]at a;obtain⟨j,q⟩:∃j,j=(b t).a k:=⟨_,rfl⟩;rw[<-q]at a S f;show 0<=red P c (b t) k*W ((b t).a k);rw[<-q];have r:∀(σ:Int),(σ=1∨σ=-1)->room P v j σ=some 0->(σ:Rat)*W j<=0:=by
     intro σ t v
     rcases h.y.iR j f with⟨o,u,AA⟩ | ⟨L,C,AB⟩
     ·have P:W j=(b s).M o (g s)*(w s:Rat):=by rw[m,<-AA];exact Au h.y d.da u
      by_cases c:(b s).M o (g s)=0
      ·simp_all
      ·have z:w s*ck ((b s).M o (g s))≠σ:=λe=>by
        have:=d.zx o u c (by rw[AA,e,Sm (D j f)];exact v);rw[p,AA]at this;omega
       have e:=jt c;rw[P]
       rcases vn A c with⟨s1,s2⟩ | ⟨s1,s2⟩<;>rw[s1]at z<;>rcases t with rfl | rfl
       ·exact absurd rfl z
       ·simp;grind
       ·simp;grind
       grind
     ·by_cases e:L=g s
      ·have i:W j=(w s:Rat):=by rw[m,<-AB,qe h.y d.da C,aT e]
       have c:=d.can;rw[<-e,AB,wE (D j f)]at c;have s:=Kv t v;rw[i]
       rcases A with i | i<;>rw[i]at c|-<;>rcases s with⟨rfl,z⟩ | ⟨rfl,z⟩
       ·exact absurd (tR (by decide) c _ z) qK
       ·simp;grind
       ·simp;grind
       ·exact absurd (tQ (by decide) c _ z) qK
      ·have c:W j=0:=by rw[m,<-AB,qe h.y d.da C,aC e]
       simp_all
    have M:=R.AH j f
    rcases jH G with⟨ez,e⟩ | ⟨ez,e⟩<;>rw[e]at a
    ·obtain⟨e,c,_⟩:=zP (by decide) a;have f:=M.1 e c;have:=r (-1) (.inr rfl) (by rw[C1 c];congr 1;grind);have c:0<=W j:=by simp at this;grind
     exact im (iu ez) c
    ·obtain⟨f,e,_⟩:=zQ (by decide) a;have a:=M.2 f e;have:=r 1 (.inl rfl) (by rw[C2 e];congr 1;grind);have a:0<=-W j:=by simp at this;grind
     have e:0<=-red P c (b t) k:=by grind
     have:=im e a;grind
 ·have f:=l.can;rw[x,l.pV]at f;rw[wE (E r F)]at f;show 0<red P c (b t) (g t)*W ((b t).a (g t));rw[x,J,sx ((b s).M (a s) (g s))]
  rcases jH l.d with⟨ez,e⟩ | ⟨ez,e⟩<;>rw[e]at f<;>rcases K with⟨s1,s2⟩ | ⟨s1,s2⟩<;>rw[s1]at n
  ·have:=Rat.mul_pos ez (jt d.mT);grind
  ·rcases n with⟨z,_⟩ | ⟨_,z⟩
   ·cases z
   ·exact absurd (tQ (by decide) f _ z) qK
  ·rcases n with⟨_,z⟩ | ⟨z,_⟩
   ·exact absurd (tR (by decide) f _ z) qK
   ·cases z
  ·have a:0 < -red P c (b t) (g t):=by grind
   have:=Rat.mul_pos a (jt d.mT);rw[s2];grind
def cu(B:Nat)(q:Rat):Prop:=q.num.natAbs<=B/\q.den<=B
theorem uA(q:Rat):q*(q.den:Rat)=(q.num:Rat):=by
 have h:=Rat.num_divInt_den q;rw[Rat.divInt_eq_div]at h;have a:(q.den:Rat)≠0:=by
  intro e;have:q.den=0:=by exact_mod_cast e
  exact q.den_nz this
 have e:((q.den:Int):Rat)=(q.den:Rat):=oq _;grind
theorem M0{B:Nat}{p q:Rat}(c:cu B p)(d:cu B q)(h:p<q):1<=(q-p)*((B:Rat)*B):=by
 have e:(0:Rat)<p.den:=by exact_mod_cast p.den_pos
 have a:(0:Rat)<q.den:=by exact_mod_cast q.den_pos
 have f:p*p.den=p.num:=uA p;have g:q*q.den=q.num:=uA q;have b:0<(q-p)*((p.den:Rat)*q.den):=Rat.mul_pos (by grind) (Rat.mul_pos e a);have e:(q-p)*((p.den:Rat)*q.den)=((q.num*p.den-p.num*q.den:Int):Rat):=by
  simp only[Rat.intCast_sub,x4,<-f,<-g,oq];grind
 rw[e]at b;have f:0<q.num*p.den-p.num*q.den:=by exact_mod_cast b
 have b:(1:Rat)<=((q.num*p.den-p.num*q.den:Int):Rat):=by exact_mod_cast f
 rw[<-e]at b;have b:(p.den:Rat)<=B:=by exact_mod_cast c.2
 have c:(q.den:Rat)<=B:=by exact_mod_cast d.2
 have d:(p.den:Rat)*q.den<=(B:Rat)*B:=by
  have e:=CC b (iu a);have a:(0:Rat)<=B:=by grind
  have b:=sF c a;grind
 have a:=sF d (show(0:Rat)<=q-p by grind);grind
theorem Gu{B:Nat}{p:Rat}(c:cu B p):-(B:Rat)<=p/\p<=B:=by
 have a:(1:Rat)<=p.den:=by exact_mod_cast p.den_pos
 have d:p*p.den=p.num:=uA p;have b:-(B:Int)<=p.num/\p.num<=B:=by have:=c.1;omega
 have c:-(B:Rat)<=p.num:=by
  have h:((-(B:Int):Int):Rat)<=p.num:=by exact_mod_cast b.1
  rwa [Rat.intCast_neg,oq]at h
 have e:(p.num:Rat)<=B:=by exact_mod_cast b.2
 rw[<-d]at c e;have b:(0:Rat)<=B:=by exact_mod_cast Nat.zero_le B
 constructor
 ·apply pD.1;intro _;have b:p<0:=by grind
  have:=sF a (show(0:Rat)<=-p by grind);grind
 ·apply pD.1;intro _;have b:0<p:=by grind
  have:=sF a (iu b);grind
theorem Jc{T:bd}{af:Nat}{q:Rat}(a:q=0):∀k x,fj T af q k x=T.v x
 | 0,x=>by
   show(if x=T.a af then _ else _)=_;grind
 | k+1,x=>by
   show(if x=T.rows k then fj T af q k x+T.M k af*q else fj T af q k x)=_;rw[Jc a k x,a];split<;>grind
theorem NY(G:bd->Prop)(q:∀T j,G T->gk P c T=some j->G j)(aJ:∀T,G T->Inv P T/\th P T){B:Nat}(e:∀T,G T->cu B (obj P c T.v)){T:bd}(r:G T):Ends (gk P c) T:=by
 apply lW;intro k;obtain⟨a,s,l⟩:=KK k;have b:∀t,G (a t):=by
  intro t
  induction t with
  | zero=>rw[s];exact r
  | succ t ih=>exact q _ _ ih (l t)
 have m:∀t,∃p:Nat×Int×fD×Rat,gb P c (a t) p.1 p.2.1 p.2.2.1 p.2.2.2/\a (t+1)=gU P (a t) p.1 p.2.1 p.2.2.2 p.2.2.1.ind:=λt=>by
  obtain⟨c,f,g,q,h,j⟩:=Hb (l t);exact⟨(c,f,g,q),h,j⟩
 have v:∀t,obj P c (a (t+1)).v<=obj P c (a t).v:=λt=>by
  obtain⟨p,g,f⟩:=m t;obtain⟨c,h⟩:=aJ _ (b t);rw[f,g.obj c];have:=im (iu (jt g.d)) (g.Cu h c.y);grind
 have w:∀d t,obj P c (a (t+d)).v<=obj P c (a t).v:=by
  intro d
  induction d with
  | zero=>exact λt=>sE
  | succ d ih=>exact λt=>Rat.le_trans (v (t+d)) (ih t)
 have y:∀t,∃u,t<=u/\obj P c (a (u+1)).v<obj P c (a u).v:=by
  intro t;apply lW;intro l;have z:∀u,t<=u->∃p:Nat×Nat×Int,q9 P c (a u) p.1 p.2.1 p.2.2/\(a (u+1)).rows=((a u).H p.1 p.2.1).rows/\∀x,(a (u+1)).v x=(a u).v x:=λu r=>by
   obtain⟨⟨n,o,_,q⟩,c,h⟩:=m u;simp only at c h;obtain⟨j,m⟩:=aJ _ (b u);have s:=c.Cu m j.y;have A:q=0:=by
    apply lW;intro k;apply l;refine⟨u,r,?_⟩;rw[h,c.obj j];have:=Rat.mul_pos (jt c.d) (show 0<q by grind);grind
   subst A;obtain⟨j,k,g⟩:=c.NX;rw[k]at h;refine⟨(j,n,o),g,by rw[h];rfl,λx=>?_⟩;rw[h];show fj (a u) n (if o<0 then -0 else 0) P.m x=_;exact Jc (by split<;>grind) _ _
  have f:∀d,∃p:Nat×Nat×Int,q9 P c (a (t+d)) p.1 p.2.1 p.2.2/\(a (t+d+1)).rows=((a (t+d)).H p.1 p.2.1).rows/\∀x,(a (t+d+1)).v x=(a (t+d)).v x:=λd=>z (t+d) (by omega);have B:∀d,∀x,(a (t+d)).v x=(a t).v x:=by
   intro d
   induction d with
   | zero=>exact λx=>rfl
   | succ d ih=>exact λx=>((pE (f d)).2.2 x).trans (ih x)
  have R:zm P c (λd=>a (t+d)) (λd=>(Classical.choose (f d)).1) (λd=>(Classical.choose (f d)).2.1) (λd=>(Classical.choose (f d)).2.2) (3^(P.n+P.m)) (a t).v:=
   ⟨λd _=>(pE (f d)).1,λd _=>(pE (f d)).2.1,λd _=>(aJ _ (b _)).1,(aJ _ (b t)).2,λd _ x _=>B d x⟩
  refine zJ (dh:=λd x=>dh P (a (t+d)) x) (iX:=λd=>(a (t+d)).rows ((Classical.choose (f d)).1)) (cJ:=λd=>(a (t+d)).a ((Classical.choose (f d)).2.1)) (λd g x=>?_) (λd g=>?_) (λs u r f h j k i _=>R.core s u r f h j k i) (P.n+P.m) 0 (λd _ g=>?_) (by omega)
  ·have c:=R.go d g;exact Gr (aJ _ (b _)).1.y c.eA c.da (R.hc d g) x
  ·have c:=R.go d g;have n:=(aJ _ (b (t+d))).1;exact⟨⟨_,c.eA,rfl⟩,λ⟨j,f,g⟩=>n.y.rc j _ f c.da g⟩
  ·have g:=R.go d (by omega);have c:=(aJ _ (b (t+d))).1;exact⟨c.y.r _ g.eA,c.y.c _ g.da⟩
 have C:∀K:Nat,∃t,(K:Rat)<=(obj P c (a 0).v-obj P c (a t).v)*((B:Rat)*B):=by
  intro K
  induction K with
  | zero=>exact⟨0,by simp;grind⟩
  | succ K ih=>
    obtain⟨t,h⟩:=ih;obtain⟨u,_,d⟩:=y t;have c:=w (u-t) t;rw[show t+(u-t)=u by omega]at c;have f:=M0 (e _ (b (u+1))) (e _ (b u)) d;have d:(0:Rat)<=(B:Rat)*B:=by
     have e:(0:Rat)<=B:=by exact_mod_cast Nat.zero_le B
     exact im e e
    have i:=CC c d;refine⟨u+1,?_⟩;have:((K+1:Nat):Rat)=(K:Rat)+1:=by simp
    rw[this];grind
 obtain⟨t,h⟩:=C (2*B*(B*B)+1);obtain⟨_,_⟩:=Gu (e _ (b 0));obtain⟨_,_⟩:=Gu (e _ (b t));have d:(0:Rat)<=(B:Rat)*B:=by
  have e:(0:Rat)<=B:=by exact_mod_cast Nat.zero_le B
  exact im e e
 have i:=CC (show obj P c (a 0).v-obj P c (a t).v<=2*(B:Rat) by grind) d;grind
end
def gM(j l:Nat):Rat:=if j<l then 1 else if l<j then -1 else 0
theorem SJ(j l:Nat):gM l j=-gM j l:=by
 unfold gM;grind
def dJ(n:Nat):List (Nat->Rat)->(Nat->Rat)->Rat
 | [],_=>1
 | r::a,w=>a1 (λj=>r j*w j*dJ n a (λl=>w l*gM j l)) n
section
variable{n:Nat}
theorem Mh(r s:Nat->Rat)(B:List (Nat->Rat))(w:Nat->Rat):dJ n (r::s::B) w=-dJ n (s::r::B) w:=by
 have a:∀(r s:Nat->Rat),dJ n (r::s::B) w=a1 (λj=>a1 (λl=>r j*s l*(w j*w l*gM j l*dJ n B (λx=>w x*gM j x*gM l x))) n) n:=λr s=>by
  simp only[dJ];refine ew λj _=>?_;rw[<-hY];grind
 rw[a,a,Dl];have:∀(f:Nat->Rat) (N:Nat),-a1 f N=a1 (λi=>-f i) N:=λf N=>by
  have:=hY (-1) f N;grind
 rw[this];refine ew λj _=>?_;rw[this];refine ew λl _=>?_;have e:(λx=>w x*gM l x*gM j x)=λx=>w x*gM j x*gM l x:=funext λx=>by grind
 rw[e,SJ j l];grind
theorem za(r s:Nat->Rat)(B:List (Nat->Rat)):∀(A:List (Nat->Rat)) (w:Nat->Rat),dJ n (A++r::s::B) w=-dJ n (A++s::r::B) w
 | [],w=>Mh r s B w
 | a::A,w=>by
   simp only[kl,dJ];have:=hY (-1) (λj=>a j*w j*dJ n (A++s::r::B) (λl=>w l*gM j l)) n;have e:a1 (λj=>a j*w j*dJ n (A++r::s::B) (λl=>w l*gM j l)) n=a1 (λj=>(-1)*(a j*w j*dJ n (A++s::r::B) (λl=>w l*gM j l))) n:=ew λj _=>by
    rw[za r s B A];grind
   grind
theorem y8(r:Nat->Rat)(w:Nat->Rat):∀(B A:List (Nat->Rat)),r∈B->dJ n (A++r::B) w=0
 | [],_,h=>by cases h
 | s::B,A,h=>by
   by_cases e:r=s
   ·subst e;have:=za (n:=n) r r B A w;grind
   ·have a:r∈B:=by
     rcases hk.1 h with h | h
     ·exact absurd h e
     ·exact h
    rw[za];have:=y8 r w B (A++[s]) a;grind
theorem Mi(r:Nat->Rat)(w:Nat->Rat){A B:List (Nat->Rat)}(h:r∈A∨r∈B):dJ n (A++r::B) w=0:=by
 rcases h with h | h
 ·obtain⟨a,b,rfl⟩:=List.append_of_mem h;rw[sw];exact y8 r w (b++r::B) a (List.mem_append_right _ (.head _))
 ·exact y8 r w B A h
theorem y7:∀{A te:List (Nat->Rat)} (w:Nat->Rat),A.length=te.length->(∀(i:Nat) (r bn:Nat->Rat),A[i]? = some r->te[i]? = some bn->∀j,j<n->r j=bn j)->dJ n A w=dJ n te w
 | [],[],_,_,_=>rfl
 | r::A,bn::te,w,a,h=>by
   simp only[dJ];refine ew λj b=>?_;rw[h 0 r bn rfl rfl j b,y7 (λl=>w l*gM j l) (by simpa using a) λi a b e c=>h (i+1) a b (by simpa using e) (by simpa using c)]
 | [],_::_,_,a,_=>by simp at a
 | _::_,[],_,a,_=>by simp at a
theorem y'(a b:Rat)(r s:Nat->Rat)(B:List (Nat->Rat)):∀(A:List (Nat->Rat)) (w:Nat->Rat),dJ n (A++(λj=>a*r j+b*s j)::B) w=a*dJ n (A++r::B) w+b*dJ n (A++s::B) w
 | [],w=>by
   simp only[u4,dJ];rw[<-hY,<-hY,<-oD];grind
 | c::A,w=>by
   simp only[kl,dJ];rw[<-hY,<-hY,<-oD];refine ew λj _=>?_;rw[y' a b r s B A];grind
theorem FI(f:Nat->Nat->Rat)(m:Nat->Rat)(A B:List (Nat->Rat))(w:Nat->Rat):∀N,dJ n (A++(λj=>a1 (λi=>m i*f i j) N)::B) w=a1 (λi=>m i*dJ n (A++f i::B) w) N
 | 0=>by
   have:=y' (n:=n) 0 0 (λ_=>0) (λ_=>0) B A w;have e:(λj=>a1 (λi=>m i*f i j) 0)=λj=>(0:Rat)*(λ_=>(0:Rat)) j+0*(λ_=>(0:Rat)) j:=by
    funext j;simp[a1,na]
   rw[e,this];simp only[a1];grind
 | N+1=>by
   have e:(λj=>a1 (λi=>m i*f i j) (N+1))=λj=>1*(λj=>a1 (λi=>m i*f i j) N) j+m N*f N j:=by
    funext j;simp only[a1];grind
   rw[e,y',FI f m A B w N];simp only[a1];grind
theorem NJ{N:Nat}{C:Nat->Nat->Rat}{g m:Nat->Rat}(a:∀j,j<n->g j=a1 (λk=>m k*C k j) N){k:Nat}(a:k<N)(w:Nat->Rat):
 dJ n (((List.range N).map C).take k++g::((List.range N).map C).drop (k+1)) w=m k*dJ n ((List.range N).map C) w:=by
 have b:dJ n (((List.range N).map C).take k++g::((List.range N).map C).drop (k+1)) w=dJ n (((List.range N).map C).take k++(λj=>a1 (λi=>m i*C i j) N)::((List.range N).map C).drop (k+1)) w:=by
  refine y7 w (by simp) λi _ _ _ _ j _=>?_;have c:(((List.range N).map C).take k).length=k:=by simp;omega
  by_cases c:i<k
  ·grind
  ·grind
 rw[b,FI,oE (j:=k) a λi c _=>?_]
 ·congr 1;have:((List.range N).map C).take k++C k::((List.range N).map C).drop (k+1)=(List.range N).map C:=by
   have h:((List.range N).map C)[k]'(by simpa using a)=C k:=by simp
   rw[<-h,<-List.drop_eq_getElem_cons,uY]
  rw[this]
 ·rw[Mi (C i) w,ow];have a:∀(l:List (Nat->Rat)) (q:Nat),l[q]? = some (C i)->C i∈l:=λl q h=>eB h;by_cases h:i<k
  ·refine .inl (a _ i ?_);grind
  ·refine .inr (a _ (i-(k+1)) ?_);grind
theorem Mg{N:Nat}{C a:Nat->Nat->Rat}{g:Nat->Rat}{k:Nat}(b:k<N)(h:∀i,i<N->a i=if i=k then g else C i)(_:Nat->Rat):(List.range N).map a=((List.range N).map C).take k++g::((List.range N).map C).drop (k+1):=by
 apply nb;grind
def dF(q:Rat)(b:Nat):Prop:=∃z:Int,q=z/\z.natAbs<=b
theorem dF.mono{q:Rat}{a b:Nat}(h:dF q a)(c:a<=b):dF q b:=let ⟨z,d,e⟩:=h;⟨z,d,aY e c⟩
theorem dF.add{p q:Rat}{a b:Nat}(h:dF p a)(g:dF q b):dF (p+q) (a+b):=by
 obtain⟨x,rfl,_⟩:=h;obtain⟨y,rfl,_⟩:=g;exact⟨x+y,by grind,aY (Int.natAbs_add_le _ _) (by omega)⟩
theorem dF.mul{p q:Rat}{a b:Nat}(h:dF p a)(g:dF q b):dF (p*q) (a*b):=by
 obtain⟨x,rfl,a⟩:=h;obtain⟨y,rfl,b⟩:=g;exact⟨x*y,by grind,by rw[oy];exact gK a b⟩
theorem dF.sum{f:Nat->Rat}{b:Nat}:∀{n:Nat},(∀i,i<n->dF (f i) b)->dF (a1 f n) (n*b)
 | 0,_=>⟨0,by simp[a1],by simp⟩
 | n+1,h=>by
   rw[a1,hS];exact(dF.sum λi _=>h i (by omega)).add (h n (by omega))
theorem OY(j l:Nat):dF (gM j l) 1:=by
 unfold gM;by_cases a:j<l
 ·rw[aT a];exact⟨1,by simp,by decide⟩
 ·by_cases b:l<j
  ·rw[aC a,aT b];exact⟨-1,by simp,by decide⟩
  ·rw[aC a,aC b];exact⟨0,by simp,by decide⟩
theorem y9{E:Nat}:∀{A:List (Nat->Rat)} {w:Nat->Rat},(∀r∈A,∀j,j<n->dF (r j) E)->(∀j,dF (w j) 1)->dF (dJ n A w) ((n*E)^A.length)
 | [],_,_,_=>⟨1,by simp[dJ],by simp⟩
 | r::A,w,h,a=>by
   simp only[dJ,gu,dH];have:=dF.sum (f:=λj=>r j*w j*dJ n A (λl=>w l*gM j l)) (b:=E*1*(n*E)^A.length) (n:=n) λj c=>
    ((h r (.head _) j c).mul (a j)).mul (y9 (λr b=>h r (.tail _ b)) λl=>(a l).mul (OY j l))
   grind
theorem zE{q p r:Rat}{a b B:Nat}(h:q*r=p)(d:dF p a)(e:dF r b)(f:r≠0)(i:a<=B)(i:b<=B):cu B q:=by
 obtain⟨x,rfl,b⟩:=d;obtain⟨y,rfl,_⟩:=e;have g:y≠0:=by rintro rfl;exact f (by simp)
 have e:q.num*y=x*q.den:=by
  have b:((q.num*y:Int):Rat)=((x*(q.den:Int):Int):Rat):=by
   rw[x4,x4,<-uA q,oq];grind
  exact_mod_cast b
 have a:q.num.natAbs*y.natAbs=x.natAbs*q.den:=by
  have:=congrArg Int.natAbs e;simpa [oy]using this
 have b:q.den∣y.natAbs:=q.reduced.symm.dvd_of_dvd_mul_left (a▸Nat.dvd_mul_left _ _);have h:q.num.natAbs∣x.natAbs:=q.reduced.dvd_of_dvd_mul_right (a▸Nat.dvd_mul_right _ _);have d:0<y.natAbs:=Int.natAbs_pos.2 g;refine⟨?_,aY (Nat.le_of_dvd d b) (by omega)⟩;by_cases c:x=0
 ·subst c;rw[Int.natAbs_zero,Nat.zero_mul]at a
  rcases Nat.mul_eq_zero.1 a with a | a
  ·grind
  ·omega
 ·exact aY (Nat.le_of_dvd (Int.natAbs_pos.2 c) h) (by omega)
end
def form(P:bu)(x j:Nat):Rat:=if x<P.n then(if x=j then 1 else 0) else P.A (x-P.n) j
section
variable{P:bu}{c:Nat->Rat}{T:bd}
theorem Ox(P:bu){j:Nat}(a:j<P.n):rl P λx=>form P x j:=λi _=>by
 have b:¬P.n+i<P.n:=by omega
 show form P (P.n+i) j=a1 (λk=>P.A i k*form P k j) P.n;rw[oE (j:=j) a λk c d=>by simp[form,c,d]];simp only[form,b,if_false,a,if_true,Nat.add_sub_cancel_left];grind
theorem HL(h:Inv P T){i:Nat}(aJ:i<P.m){j:Nat}(a:j<P.n):form P (T.rows i) j=a1 (λk=>T.M i k*form P (T.a k) j) P.n:=(h.dD _).1 (Ox P a) i aJ
structure lp(P:bu)(s:Nat->Nat)(S E:Nat):Prop where
 pos:∀x,1<=s x
 le:∀x,s x<=S
 one:∀x,x<P.n->s x=1
 z:∀x j,x<P.n+P.m->j<P.n->dF ((s x:Rat)*form P x j) E
def iF(P:bu)(s:Nat->Nat)(T:bd)(k j:Nat):Rat:=(s (T.a k):Rat)*form P (T.a k) j
def ff(P:bu)(s:Nat->Nat)(T:bd):Rat:=dJ P.n ((List.range P.n).map (iF P s T)) λ_=>1
theorem vl{s:Nat->Nat}(h:∀x,1<=s x)(x:Nat):(s x:Rat)≠0:=by
 have:=h x;intro e;have:s x=0:=by exact_mod_cast e
 omega
theorem GC{s:Nat->Nat}(a:∀x,1<=s x){g:Nat->Rat}{m:Nat->Rat}{t:Nat}(b:∀j,j<P.n->g j=a1 (λk=>m k*form P (T.a k) j) P.n){k:Nat}(c:k<P.n):
 dJ P.n (((List.range P.n).map (iF P s T)).take k++(λj=>(t:Rat)*g j)::((List.range P.n).map (iF P s T)).drop (k+1)) (λ_=>1)*(s (T.a k):Rat)=m k*((t:Rat)*ff P s T):=by
 have d:∀j,j<P.n->(λj=>(t:Rat)*g j) j=a1 (λk=>((t:Rat)*m k/(s (T.a k):Rat))*iF P s T k j) P.n:=λj e=>by
  show(t:Rat)*g j=_;rw[b j e,<-hY];refine ew λk _=>?_;unfold iF;have:=vl a (T.a k);grind
 rw[NJ d c,ff];have:=vl a (T.a k);grind
theorem FF{s:Nat->Nat}(b:∀x,1<=s x)(h:Inv P T){a af:Nat}(f:a<P.m)(c:af<P.n)(g:T.M a af≠0)(g:ff P s T≠0):ff P s (T.H a af)≠0:=by
 have d:=GC (T:=T) b (t:=s (T.rows a)) (λj g=>HL h f g) c;have k:(List.range P.n).map (iF P s (T.H a af))=((List.range P.n).map (iF P s T)).take af++(λj=>(s (T.rows a):Rat)*form P (T.rows a) j)::((List.range P.n).map (iF P s T)).drop (af+1):=by
  refine Mg c (λi _=>?_) (λ_=>1);funext j;unfold iF;by_cases e:i=af
  ·subst e;show(s (if i=i then _ else _):Rat)*form P (if i=i then _ else _) j=_;simp
  ·show(s (if i=af then _ else _):Rat)*form P (if i=af then _ else _) j=_;simp[e]
 rw[<-k]at d;intro c;have e:dJ P.n ((List.range P.n).map (iF P s (T.H a af))) (λ_=>1)=0:=c;rw[e,Rat.zero_mul]at d;have:=vl b (T.rows a);grind
theorem C9{s:Nat->Nat}{S:Nat}(h:∀x,s x<=S)(x:Nat):dF (s x:Rat) S:=⟨(s x:Int),(oq _).symm,by simpa using h x⟩
variable{s:Nat->Nat}{S E:Nat}
theorem y6(a:lp P s S E)(h:dx P T):∀r∈(List.range P.n).map (iF P s T),∀j,j<P.n->dF (r j) E:=by
 intro r b j c;obtain⟨k,d,rfl⟩:=k1.1 b;exact a.z _ j (h.c k (List.mem_range.1 d)) c
theorem vS(a:lp P s S E)(h:dx P T):dF (ff P s T) ((P.n*E)^P.n):=by
 have:=y9 (n:=P.n) (w:=λ_=>1) (y6 a h) λ_=>⟨1,by simp,by decide⟩;simpa [ff]using this
theorem QL(c:lp P s S E)(h:dx P T){g:Nat->Rat}(d:∀j,j<P.n->dF (g j) E){k:Nat}(e:k<P.n):dF (dJ P.n (((List.range P.n).map (iF P s T)).take k++g::((List.range P.n).map (iF P s T)).drop (k+1)) λ_=>1) ((P.n*E)^P.n):=by
 have:=y9 (n:=P.n) (E:=E) (w:=λ_=>1) (A:=((List.range P.n).map (iF P s T)).take k++g::((List.range P.n).map (iF P s T)).drop (k+1)) (λr a j b=>by
  rcases l2.1 a with a | a
  ·exact y6 c h r (sH a) j b
  ·rcases hk.1 a with rfl | a
   ·exact d j b
   ·exact y6 c h r (x8 a) j b) λ_=>⟨1,by simp,by decide⟩
 grind
theorem FX(a:lp P s S E)(h:Inv P T){i k:Nat}(aJ:i<P.m)(c:k<P.n):dF (T.M i k*((s (T.rows i):Rat)*ff P s T)) ((P.n*E)^P.n*S):=by
 rw[<-GC (T:=T) a.pos (t:=s (T.rows i)) (λj b=>HL h aJ b) c];exact(QL a h.y (λj b=>a.z _ j (h.y.r i aJ) b) c).mul (C9 a.le _)
theorem Mz(a:lp P s S E)(h:Inv P T)(c:ff P s T≠0){i k:Nat}(aJ:i<P.m)(b:k<P.n):cu ((P.n*E)^P.n*S) (T.M i k):=
 zE rfl (FX a h aJ b) ((C9 a.le _).mul (vS a h.y)) (λe=>by
  rcases u9.1 e with b | b
  ·exact vl a.pos _ b
  ·exact c b) (bg _) (Nat.le_of_eq (dW _ _))
def lQ(f:Nat->Nat):Nat->Nat
 | 0=>1
 | n+1=>lQ f n*f n
theorem xX{f:Nat->Nat}(h:∀i,1<=f i):∀n,1<=lQ f n
 | 0=>bg _
 | n+1=>pC (xX h n) (h n)
theorem su{f:Nat->Nat}{B:Nat}:∀{n:Nat},(∀i,i<n->f i<=B)->lQ f n<=B^n
 | 0,_=>bg _
 | n+1,h=>by
   rw[lQ,dH];exact gK (su λi _=>h i (by omega)) (h n (by omega))
theorem uS{f:Nat->Nat}:∀{n i:Nat},i<n->f i∣lQ f n
 | n+1,i,_=>by
   rw[lQ];by_cases e:i=n
   ·subst e;exact Nat.dvd_mul_left _ _
   ·exact Nat.dvd_trans (uS (by omega)) (Nat.dvd_mul_right _ _)
theorem wW{q:Rat}{B Q:Nat}(a:cu B q)(b:q.den∣Q){R:Nat}(c:Q<=R):dF (q*(Q:Rat)) (B*R):=by
 obtain⟨e,rfl⟩:=b;have b:q*((q.den*e:Nat):Rat)=((q.num*(e:Int):Int):Rat):=by
  have:=uA q;simp only[Rat.natCast_mul,x4,oq];grind
 refine⟨_,b,?_⟩;rw[oy];refine gK a.1 ?_;have:=q.den_pos;exact aY (sK e this) c
def gE(P:bu)(T:bd):Nat:=lQ (λk=>(T.v (T.a k)).den) P.n
theorem F3(T:bd):(gE P T:Rat)≠0:=by
 intro e;have:gE P T=0:=by exact_mod_cast e
 have:=xX (f:=λk=>(T.v (T.a k)).den) (λk=>(T.v (T.a k)).den_pos) P.n;unfold gE at*
 omega
theorem wg{T:bd}{V:Nat}(a:∀k,k<P.n->cu V (T.v (T.a k))):gE P T<=V^P.n:=su λk b=>(a k b).2
def jO(n F S V:Nat):Nat:=n*(F*S*(V*V^n))+F*S*(V*V^n)
theorem KD(c:lp P s S E)(h:Inv P T){V:Nat}(b:∀k,k<P.n->cu V (T.v (T.a k))){i:Nat}(aJ:i<P.m):dF (T.v (T.rows i)*((s (T.rows i):Rat)*ff P s T*(gE P T:Rat))) (P.n*((P.n*E)^P.n*S*(V*V^P.n))):=by
 have e:T.v (T.rows i)*((s (T.rows i):Rat)*ff P s T*(gE P T:Rat))=a1 (λk=>T.M i k*((s (T.rows i):Rat)*ff P s T)*(T.v (T.a k)*(gE P T:Rat))) P.n:=by
  rw[(h.dD _).1 h.val i aJ];have:=hY ((s (T.rows i):Rat)*ff P s T*(gE P T:Rat)) (λk=>T.M i k*T.v (T.a k)) P.n;rw[sx,<-this];exact ew λk _=>by grind
 rw[e];exact dF.sum λk a=>(FX c h aJ a).mul (wW (b k a) (uS a) (wg b))
theorem one_le_pow{V n:Nat}(h:1<=V):1<=V^n:=sA _ _ h
theorem Dx(a:lp P s S E)(h:Inv P T)(e:ff P s T≠0){V:Nat}(f:1<=V)(b:∀k,k<P.n->cu V (T.v (T.a k))){x:Nat}(d:x<P.n+P.m):cu (jO P.n ((P.n*E)^P.n) S V+V) (T.v x):=by
 rcases h.y.iR x d with⟨i,aJ,rfl⟩ | ⟨k,kN,rfl⟩
 ·refine zE rfl (KD a h b aJ) (((C9 a.le _).mul (vS a h.y)).mul (show dF (gE P T:Rat) (V^P.n) from⟨(gE P T:Int),(oq _).symm,by simpa using wg b⟩)) (λg=>?_) ?_ ?_
  ·rcases u9.1 g with c | c
   ·rcases u9.1 c with d | d
    ·exact vl a.pos _ d
    ·exact e d
   ·exact F3 T c
  ·unfold jO;omega
  ·have a:S*(P.n*E)^P.n*V^P.n<=(P.n*E)^P.n*S*(V*V^P.n):=by
    rw[dW S];exact lX _ (sK _ f)
   unfold jO;omega
 ·obtain⟨_,_⟩:=b k kN;exact⟨by omega,by omega⟩
theorem QQ(b:lp P s S E)(h:Inv P T)(m:ff P s T≠0){V:Nat}(n:1<=V)(d:∀k,k<P.n->cu V (T.v (T.a k))){a:Nat}(o:1<=a)(l:a<=S)(p:∀j,j<P.n->dF ((a:Rat)*c j) E):cu (P.n*(E*jO P.n ((P.n*E)^P.n) S V)+jO P.n ((P.n*E)^P.n) S V) (obj P c T.v):=by
 have q:1<=S:=aY o l;have r:(a:Rat)≠0:=by
  intro e;have:a=0:=by exact_mod_cast e
  omega
 have t:∀j,j<P.n->dF (T.v j*(ff P s T*(gE P T:Rat))) (jO P.n ((P.n*E)^P.n) S V):=λj g=>by
  rcases h.y.iR j (by omega) with⟨i,aJ,e⟩ | ⟨k,kN,e⟩
  ·have:=KD b h d aJ;rw[e,b.one j g]at this;have c:T.v j*(((1:Nat):Rat)*ff P s T*(gE P T:Rat))=T.v j*(ff P s T*(gE P T:Rat)):=by simp;try grind
   rw[c]at this;exact this.mono (by unfold jO;omega)
  ·have i:=wW (d k kN) (uS (f:=λk=>(T.v (T.a k)).den) kN) (wg d);have c:=(vS b h.y).mul i;rw[e]at c;have i:ff P s T*(T.v j*(lQ (λk=>(T.v (T.a k)).den) P.n:Rat))=T.v j*(ff P s T*(gE P T:Rat)):=by unfold gE;grind
   rw[i]at c;refine c.mono ?_;have:(P.n*E)^P.n*(V*V^P.n)<=(P.n*E)^P.n*S*(V*V^P.n):=e8 _ (sJ _ q);unfold jO;omega
 have e:obj P c T.v*((a:Rat)*(ff P s T*(gE P T:Rat)))=a1 (λj=>((a:Rat)*c j)*(T.v j*(ff P s T*(gE P T:Rat)))) P.n:=by
  have:=hY ((a:Rat)*(ff P s T*(gE P T:Rat))) (λj=>c j*T.v j) P.n;rw[obj,sx,<-this];exact ew λj _=>by grind
 refine zE e (dF.sum λj g=>(p j g).mul (t j g)) ((show dF (a:Rat) S from⟨(a:Int),(oq _).symm,by simpa using l⟩).mul ((vS b h.y).mul (show dF (gE P T:Rat) (V^P.n) from⟨(gE P T:Int),(oq _).symm,by simpa using wg d⟩))) (λe=>?_) (by omega) ?_
 ·rcases u9.1 e with c | c
  ·exact r c
  ·rcases u9.1 c with a | a
   ·exact m a
   ·exact F3 T a
 ·have a:S*((P.n*E)^P.n*V^P.n)<=(P.n*E)^P.n*S*(V*V^P.n):=by
   rw[<-jC,dW S];exact lX _ (sK _ n)
  have:(P.n*E)^P.n*S*(V*V^P.n)<=jO P.n ((P.n*E)^P.n) S V:=by unfold jO;omega
  omega
end
end Go.Dam.C
namespace Go.Dam.C
open Go Go.Dam
structure ep(X:ar):Prop extends iO X where
 rP:Has X F.rP C.rP
 jK:Has X F.jK C.jK
 oS:Has X F.oS C.oS
 oP:Has X F.oP C.oP
 nx:Has X F.nx C.nx
 ny:Has X F.ny C.ny
 ns:Has X F.ns C.ns
 mh:Has X F.mh C.mh
 oN:Has X F.oN C.oN
 oT:Has X F.oT C.oT
 oM:Has X F.oM C.oM
 nt:Has X F.nt C.nt
 nA:Has X F.nA C.nA
 oL:Has X F.oL C.oL
 nB:Has X F.nB C.nB
 oO:Has X F.oO C.oO
 oK:Has X F.oK C.oK
 nC:Has X F.nC C.nC
 nz:Has X F.nz C.nz
 nu:Has X F.nu C.nu
 oR:Has X F.oR C.oR
 oQ:Has X F.oQ C.oQ
 nr:Has X F.nr C.nr
variable{X:ar}{pm:Perm}{H aa bL:ad}{n:Nat}
def eJ(H:ad)(v:Value):Option Rat->Prop
 | none=>v=.pointer none
 | some q=>b9 H v q
theorem eJ.up{v:Value}{o:Option Rat}(h:eJ H v o)(u:aF pm n H aa):eJ aa v o:=by
 cases o with
 | none=>exact h
 | some _=>exact b9.up h u
theorem eJ.ext{v:Value}{o:Option Rat}(h:eJ H v o)(u:Ext H aa):eJ aa v o:=by
 cases o with
 | none=>exact h
 | some _=>exact b9.ext h u
def fc(l:List UInt8):Option Rat:=if l=[] then none else some (rd l)
theorem td(b:ep X)(g:bs pm H){l:List UInt8}(c:l.length<1000000)(a:l≠[]->isNum l=true):Call X pm F.jK [aA l] H λr aa=>K pm H aa/\eJ aa r (fc l):=by
 refine Call.has b.jK rfl ?_;by_cases h:l=[]
 ·subst h;simp[iP,fc,eJ];exact K.refl g
 ·have d:(l==[])=false:=by simpa using h
  have j:l.isEmpty=false:=by simpa using h
  simp[iP,d,];refine aq.of (by simp) (by simp) (vX b.tozg g c) ?_;rintro r _ ⟨f,i⟩;have a:=a h
  rcases i with⟨e,rfl⟩ | ⟨q,p,e,rfl,xm⟩
  ·simp[isNum,e]at a
  ·simp[fc,h,rd,e,eJ];exact⟨f,xm⟩
def pN(ah up:Option Rat):Rat:=match ah with
 | some l=>l
 | none=>up.getD 0
theorem S1(k:ep X)(g:bs pm H){a b c:Value}{ah up:Option Rat}(l:eJ H a ah)(m:eJ H b up)(_:c6 c=true):Call X pm F.oS [.agg #[a,b,c]] H λr aa=>K pm H aa/\b9 aa r (pN ah up):=by
 refine Call.P k.oS rfl λ_ j=>?_;obtain⟨f,e⟩:∃f,f=H.new (.cells [a,b,c] (.t T.oJ)):=⟨_,rfl⟩;have d:K pm H f:=by rw[e];exact K.new g _
 have h:f.get H.next=some (.cells [a,b,c] (.t T.oJ)):=by rw[e];exact b4
 obtain⟨_,i⟩:∃b,b=H.next:=⟨_,rfl⟩;rw[<-i]at h
 cases ah with
 | some _=>
   obtain⟨a,rfl,b⟩:=id l;simp[g.pick,g.make,ptr,<-e,<-i,h];refine j _ _ _ ?_;simp;exact⟨d,⟨a,rfl,d.some g b⟩⟩
 | none=>
   obtain rfl:a=.pointer none:=l
   cases up with
   | some _=>
     obtain⟨a,rfl,b⟩:=id m;simp[g.pick,g.make,ptr,<-e,<-i,h];refine j _ _ _ ?_;simp;exact⟨d,⟨a,rfl,d.some g b⟩⟩
   | none=>
     obtain rfl:b=.pointer none:=m;simp[g.pick,g.make,ptr,<-e,<-i,h];refine aq.of (az:=[.int .i64 0]) (by simp) (by simp) (o0 k.tozg d.h (n:=0) (by omega) (by omega)) ?_;rintro r _ ⟨a,c⟩;simp;refine j _ _ _ ?_;simp;exact⟨d.trans a,by simpa [pN]using c⟩
structure jN(H:ad)(P:bu)(v:Nat->Rat)(x:Nat)(a b c:Value):Prop where
 ah:eJ H a (P.ah x)
 up:eJ H b (P.up x)
 v:b9 H c (v x)
theorem jN.k{P:bu}{v:Nat->Rat}{x:Nat}{a b c:Value}(h:jN H P v x a b c)(u:aF pm n H aa):jN aa P v x a b c:=⟨h.ah.up u,h.up.up u,h.v.up u⟩
structure wm(P:bu)(v:Nat->Rat)(x t:Nat):Prop where
 ah:∀l,P.ah x=some l->aS l t
 up:∀u,P.up x=some u->aS u t
 v:aS (v x) t
section
variable(fr:ep X)(g:bs pm H){P:bu}{v:Nat->Rat}{x t:Nat}{a b c:Value}(cw:jN H P v x a b c)(hL:wm P v x t)(ph:t<=30000000)
include fr g cw hL ph
theorem GR{aG:Int}:Call X pm F.ns [.agg #[a,b,c],.int .i64 aG] H λr aa=>K pm H aa/\r=.bool (can P v x aG):=by
 refine Call.P fr.ns rfl λ_ l=>?_;obtain⟨m,i⟩:∃m,m=H.new (.cells [a,b,c] (.t T.oJ)):=⟨_,rfl⟩;have e:K pm H m:=by rw[i];exact K.new g _
 have j:m.get H.next=some (.cells [a,b,c] (.t T.oJ)):=by rw[i];exact b4
 obtain⟨_,k⟩:∃b,b=H.next:=⟨_,rfl⟩;rw[<-k]at j;have n:t<=fo:=aY ph (by decide);obtain⟨d,f,o⟩:=cw;obtain⟨s,u,p⟩:=hL;obtain⟨_,rfl,_⟩:=id o;have q:=o.up e;by_cases h:0<aG
 ·cases c:P.up x with
  | none=>
    rw[c]at f;obtain rfl:b=.pointer none:=f;have t:∃r,a=.pointer r:=by
     cases a:P.ah x with
     | none=>rw[a]at d;exact⟨_,d⟩
     | some _=>rw[a]at d;obtain⟨_,rfl,_⟩:=d;exact⟨_,rfl⟩
    obtain⟨r,rfl⟩:=t;simp[g.pick,g.make,ptr,<-i,<-k,j,h,bz];refine aq.not (by simp) ?_;simp[bz];refine l _ _ _ ?_;simp[can,h,c];exact e
  | some r=>
    rw[c]at f;obtain⟨_,rfl,_⟩:=id f;have t:∃b,a=.pointer b:=by
     cases a:P.ah x with
     | none=>rw[a]at d;exact⟨_,d⟩
     | some _=>rw[a]at d;obtain⟨_,rfl,_⟩:=d;exact⟨_,rfl⟩
    obtain⟨b,rfl⟩:=t;simp[g.pick,g.make,ptr,<-i,<-k,j,h,bz];refine aq.of (by simp) (by simp) (q8 fr.tozg e.h q.of (b9.of (b9.up f e)) (p.bw n) ((u r c).bw n)) ?_;rintro _ _ ⟨rfl,rfl⟩;simp;refine l _ _ _ ?_;simp[can,h,c,qa];exact e
 ·have r:∃c,b=.pointer c:=by
   cases a:P.up x with
   | none=>rw[a]at f;exact⟨_,f⟩
   | some _=>rw[a]at f;obtain⟨_,rfl,_⟩:=f;exact⟨_,rfl⟩
  obtain⟨c,rfl⟩:=r
  cases b:P.ah x with
  | none=>
    rw[b]at d;obtain rfl:a=.pointer none:=d;simp[g.pick,g.make,ptr,<-i,<-k,j,h,bz];refine aq.not (by simp) ?_;simp[bz];refine l _ _ _ ?_;simp[can,h,b];exact e
  | some a=>
    rw[b]at d;obtain⟨_,rfl,_⟩:=id d;simp[g.pick,g.make,ptr,<-i,<-k,j,h,bz];refine aq.of (by simp) (by simp) (q8 fr.tozg e.h q.of (b9.of (b9.up d e)) (p.bw n) ((s a b).bw n)) ?_;rintro _ _ ⟨rfl,rfl⟩;simp;refine l _ _ _ ?_;simp[can,h,b,wI];exact e
end
end Go.Dam.C
namespace Go.Dam.C
open Go Go.Dam
variable{X:ar}{pm:Perm}{H aa bL aj:ad}{n:Nat}
theorem eJ.ptr{v:Value}{o:Option Rat}(h:eJ H v o):∃p,v=.pointer p:=by
 cases o with
 | none=>exact⟨_,h⟩
 | some _=>obtain⟨_,rfl,_⟩:=h;exact⟨_,rfl⟩
section
variable(fr:ep X)(g:bs pm H){P:bu}{v:Nat->Rat}{x t:Nat}{a b c:Value}(cw:jN H P v x a b c)(hL:wm P v x t)(ph:t<=30000000)
include fr g cw hL ph
theorem BV:Call X pm F.mh [.agg #[a,b,c]] H λr aa=>K pm H aa/\r=.int .i64 (off P v x):=by
 refine Call.P fr.mh rfl λQ k=>?_;obtain⟨h,m⟩:∃h,h=H.new (.cells [a,b,c] (.t T.oJ)):=⟨_,rfl⟩;have d:K pm H h:=by rw[m];exact K.new g _
 have i:h.get H.next=some (.cells [a,b,c] (.t T.oJ)):=by rw[m];exact b4
 obtain⟨w,o⟩:∃b,b=H.next:=⟨_,rfl⟩;rw[<-o]at i;have n:t<=fo:=aY ph (by decide);obtain⟨j,f,p⟩:=cw;obtain⟨y,z,q⟩:=hL;obtain⟨_,rfl,_⟩:=id p;have r:=p.up d;have s:∀(L:bb),aK 1 L=some (.pointer (some ⟨w,0,none⟩))->(∀l,P.ah x=some l->¬v x<l)->aK 3 L=some (.bool false)->wp X pm (.code q2) L h [.aW 0,.seq vK] Q:=by
  intro L g A t;have c:off P v x=mN P v x:=by
   unfold off
   cases e:P.ah x with
   | none=>rfl
   | some l=>simp[A l e]
  cases a:P.up x with
  | none=>
    rw[a]at f;obtain rfl:b=.pointer none:=f;simp[g,t,i,bz];refine aq.not (by simp) ?_;simp[bz];refine k _ _ _ ?_;simp[c,mN,a];exact d
  | some u=>
    rw[a]at f;obtain⟨_,rfl,_⟩:=id f;simp[g,t,i,];refine aq.of (by simp) (by simp) (q8 fr.tozg d.h r.of (b9.of (b9.up f d)) (q.bw n) ((z u a).bw n)) ?_;rintro _ _ ⟨rfl,rfl⟩;by_cases b:u<v x
    ·simp[wI,b];refine k _ _ _ ?_;simp[c,mN,a,b];exact d
    ·simp[wI,b];refine k _ _ _ ?_;simp[c,mN,a,b];exact d
 obtain⟨_,rfl⟩:=f.ptr
 cases e:P.ah x with
 | none=>
   rw[e]at j;obtain rfl:a=.pointer none:=j;simp[g.pick,g.make,ptr,<-m,<-o,i,bz,-q2];refine aq.not (by simp) ?_;simp[bz,-q2,-vK];exact s _ (by simp) (λl b=>by rw[e]at b;cases b) (by simp)
 | some l=>
   rw[e]at j;obtain⟨_,rfl,_⟩:=id j;simp[g.pick,g.make,ptr,<-m,<-o,i, -q2];refine aq.of (by simp) (by simp) (q8 fr.tozg d.h r.of (b9.of (b9.up j d)) (q.bw n) ((y l e).bw n)) ?_;rintro _ _ ⟨rfl,rfl⟩;by_cases a:v x<l
   ·simp[bz,qa,a];refine k _ _ _ ?_;simp[off,e,a];exact d
   ·simp[qa,a,-q2,-vK];exact s _ (by simp) (λ_ b=>by rw[e]at b;cases b;exact a) (by simp)
theorem Ku{aG:Int}:Call X pm F.nB [.agg #[a,b,c],.int .i64 aG] H λr aa=>K pm H aa/\eJ aa r (room P v x aG):=by
 refine Call.P fr.nB rfl λ_ l=>?_;obtain⟨m,f⟩:∃m,m=H.new (.cells [a,b,c] (.t T.oJ)):=⟨_,rfl⟩;have d:K pm H m:=by rw[f];exact K.new g _
 have h:m.get H.next=some (.cells [a,b,c] (.t T.oJ)):=by rw[f];exact b4
 obtain⟨_,i⟩:∃b,b=H.next:=⟨_,rfl⟩;rw[<-i]at h;have n:t<=fo:=aY ph (by decide);obtain⟨j,k,o⟩:=cw;obtain⟨s,u,p⟩:=hL;obtain⟨_,rfl,_⟩:=id o;have q:=o.up d;obtain⟨_,rfl⟩:=j.ptr;obtain⟨_,rfl⟩:=k.ptr;by_cases e:0<aG
 ·have b:¬aG<0:=by omega
  cases a:P.up x with
  | none=>
    rw[a]at k;cases k;simp[g.pick,g.make,ptr,<-f,<-i,h,e,b,bz];refine l _ _ _ ?_;simp[room,e,b,a,eJ];exact d
  | some c=>
    rw[a]at k;obtain⟨_,t,_⟩:=id k;cases t;simp[g.pick,g.make,ptr,<-f,<-i,h,e,b,bz];refine aq.of (by simp) (by simp) (zp fr.tozg d.h (b9.of (b9.up k d)) q.of ((u c a).bw n) (p.bw n)) ?_;rintro r _ ⟨b,c⟩;simp;refine l _ _ _ ?_;simp[room,e,a,eJ];exact⟨d.trans b,c⟩
 ·by_cases a:aG<0
  ·cases b:P.ah x with
   | none=>
     rw[b]at j;cases j;simp[g.pick,g.make,ptr,<-f,<-i,h,e,a,bz];refine l _ _ _ ?_;simp[room,e,a,b,eJ];exact d
   | some c=>
     rw[b]at j;obtain⟨_,t,_⟩:=id j;cases t;simp[g.pick,g.make,ptr,<-f,<-i,h,e,a,bz];refine aq.of (by simp) (by simp) (zp fr.tozg d.h q.of (b9.of (b9.up j d)) (p.bw n) ((s c b).bw n)) ?_;rintro r _ ⟨c,j⟩;simp;refine l _ _ _ ?_;simp[room,e,a,b,eJ];exact⟨d.trans c,j⟩
  ·simp[g.pick,g.make,ptr,<-f,<-i,h,e,a,bz];refine l _ _ _ ?_;simp[room,e,a,eJ];exact d
end
abbrev tyT:Nat:=T.T0
abbrev tyV:Nat:=T.oJ
theorem eG{ah:Nat}{ok:List Nat}{o:Option Nat}{b:Nat}(h:ah<=b):Perm.may ⟨ah,ok,o⟩ b=true:=by
 unfold Perm.may;rw[cg];simp[h]
def aP(b k:Nat):Value:=if k=0 then .slice none 0 0 else .slice (some ⟨b,0,none⟩) k k
theorem cO{b k:Nat}(h:0<k):aP b k=.slice (some ⟨b,0,none⟩) k k:=aC (by omega)
def mq(H:ad)(b k:Nat)(f:Nat->Nat):Prop:=∃a,H.get b=some (.cells a (.n 1))/\a.length=k/\∀i,i<k->a[i]? = some (.int .i64 (f i:Int))
def p1(H:ad)(P:bu)(b k:Nat)(v:Nat->Rat):Prop:=∃a,H.get b=some (.cells a (.n 3))/\a.length=k*3/\∀x,x<k->∃p q c,a[x*3]? = some p/\a[x*3+1]? = some q/\a[x*3+2]? = some c/\jN H P v x p q c
def tk(H:ad)(b k w:Nat)(c:Nat->Nat):Prop:=∃a,H.get b=some (.cells a (.n 1))/\a.length=k/\∀i,i<k->a[i]? = some (.slice (some ⟨c (5+i),0,none⟩) w w)
structure cl(P:bu)(ak:Nat)(H:ad)(ai:Nat->Nat)(lc bo:Value)(T:bd):Prop where
 t:H.get (ai 0)=some (.cells [lc,bo,aP (ai 1) (P.n+P.m),aP (ai 2) P.m,aP (ai 3) P.n,aP (ai 4) P.m] (.t tyT))
 v:0<P.n+P.m->p1 H P (ai 1) (P.n+P.m) T.v
 r:0<P.m->mq H (ai 2) P.m T.rows
 c:0<P.n->mq H (ai 3) P.n T.a
 m:0<P.m->tk H (ai 4) P.m P.n ai
 row:∀i,i<P.m->dI H (ai (5+i)) P.n P.n (T.M i)
 inj:∀i j,i<5+P.m->j<5+P.m->ai i=ai j->i=j
 ge:∀i,i<5+P.m->ak<=ai i
theorem mq.ext{b k:Nat}{f:Nat->Nat}(h:mq H b k f)(e:∀y,H.get b=some y->aa.get b=some y):mq aa b k f:=let ⟨a,c,d⟩:=h;⟨a,e _ c,d⟩
theorem tk.ext{b k w:Nat}{f:Nat->Nat}(h:tk H b k w f)(e:∀y,H.get b=some y->aa.get b=some y):tk aa b k w f:=let ⟨a,c,d⟩:=h;⟨a,e _ c,d⟩
theorem p1.ext{P:bu}{b k:Nat}{v:Nat->Rat}(h:p1 H P b k v)(u:aF pm n H aa)(e:∀y,H.get b=some y->aa.get b=some y):p1 aa P b k v:=by
 obtain⟨a,b,c,d⟩:=h;refine⟨a,e _ b,c,λx a=>?_⟩;obtain⟨p,q,c,b,f,g,i⟩:=d x a;exact⟨p,q,c,b,f,g,i.k u⟩
theorem dI.ext{c w k:Nat}{x:Nat->Rat}(h:dI H c w k x)(u:aF pm n H aa)(e:∀y,H.get c=some y->aa.get c=some y):dI aa c w k x:=by
 obtain⟨a,b,c,d⟩:=h;refine⟨a,e _ b,c,λi a=>?_⟩;obtain⟨p,b,c⟩:=d i a;exact⟨p,b,c.up u⟩
section
variable{P:bu}{ak:Nat}{ai:Nat->Nat}{lc bo:Value}{T:bd}
theorem cl.k(h:cl P ak H ai lc bo T)(g:bs pm H)(k:K pm H aa):cl P ak aa ai lc bo T where
 t:=k.some g h.t
 v:=λa=>(h.v a).ext k λ_ e=>k.some g e
 r:=λa=>(h.r a).ext λ_ e=>k.some g e
 c:=λa=>(h.c a).ext λ_ e=>k.some g e
 m:=λa=>(h.m a).ext λ_ e=>k.some g e
 row:=λi a=>(h.row i a).ext k λ_ e=>k.some g e
 inj:=h.inj
 ge:=h.ge
theorem cl.mono(h:cl P ak H ai lc bo T){cf:Nat}(a:cf<=ak):cl P cf H ai lc bo T:=⟨h.t,h.v,h.r,h.c,h.m,h.row,h.inj,λi b=>aY a (h.ge i b)⟩
theorem cl.ne(h:cl P ak H ai lc bo T){i j:Nat}(aJ:i<5+P.m)(a:j<5+P.m)(b:i≠j):ai i≠ai j:=λe=>b (h.inj i j aJ a e)
theorem e7{b c:Nat}{x:bk}(h:b≠c):∀y,H.get b=some y->(H.put c x).get b=some y:=λy e=>by rw[a7 h];exact e
theorem ql{bN:List Value}{i j:Nat}{u:Value}(h:i≠j):(bN.set j u)[i]? = bN[i]?:=by
 rw[List.getElem?_set,aC (λe=>h e.symm)]
theorem cl.K8(h:cl P ak H ai lc bo T)(g:bs pm H){x:Nat}(b:x<P.n+P.m){u:Value}{q:Rat}(m:b9 H u q){bN:List Value}(e:H.get (ai 1)=some (.cells bN (.n 3))):
 aF pm ak H (H.put (ai 1) (.cells (bN.set (x*3+2) u) (.n 3)))/\cl P ak (H.put (ai 1) (.cells (bN.set (x*3+2) u) (.n 3))) ai lc bo {T with v:=λy=>if y=x then q else T.v y}:=by
 have a:aF pm ak H (H.put (ai 1) (.cells (bN.set (x*3+2) u) (.n 3))):=aF.put (.refl g) (h.ge 1 (by omega)) e (by simp) _;have ne:∀i,i<5+P.m->i≠1->ai i≠ai 1:=λi d b=>h.ne d (by omega) b;refine⟨a,e7 (ne 0 (by omega) (by decide)) _ h.t,λb=>?_,λb=>(h.r b).ext (e7 (ne 2 (by omega) (by decide))),λb=>(h.c b).ext (e7 (ne 3 (by omega) (by decide))),λb=>(h.m b).ext (e7 (ne 4 (by omega) (by decide))),λi d=>(h.row i d).ext a (e7 (ne _ (by omega) (by omega))),h.inj,h.ge⟩;obtain⟨_,f,n,o⟩:=h.v b;rw[e]at f;cases f;refine⟨_,b1,by rw[sB];exact n,λy b=>?_⟩;obtain⟨p,r,s,j,k,t,c⟩:=o y b;by_cases l:y=x
 ·subst l;refine⟨p,r,u,by rw[ql (by omega)];exact j,by rw[ql (by omega)];exact k,by rw[List.getElem?_set,aT rfl,aT (by omega)],c.ah.up a,c.up.up a,?_⟩;simpa using m.up a
 ·refine⟨p,r,s,by rw[ql (by omega)];exact j,by rw[ql (by omega)];exact k,by rw[ql (by omega)];exact t,c.ah.up a,c.up.up a,?_⟩;simpa [l]using c.v.up a
theorem cl.yv(h:cl P ak H ai lc bo T)(g:bs pm H){i k:Nat}(aJ:i<P.m)(c:k<P.n){u:Value}{q:Rat}(m:b9 H u q){bN:List Value}(f:H.get (ai (5+i))=some (.cells bN (.n 1))):
 aF pm ak H (H.put (ai (5+i)) (.cells (bN.set k u) (.n 1)))/\cl P ak (H.put (ai (5+i)) (.cells (bN.set k u) (.n 1))) ai lc bo {T with M:=λa b=>if a=i/\b=k then q else T.M a b}:=by
 have d:aF pm ak H (H.put (ai (5+i)) (.cells (bN.set k u) (.n 1))):=aF.put (.refl g) (h.ge _ (by omega)) f (by simp) _;have ne:∀j,j<5+P.m->j≠5+i->ai j≠ai (5+i):=λj e c=>h.ne e (by omega) c;refine⟨d,e7 (ne 0 (by omega) (by omega)) _ h.t,λc=>(h.v c).ext d (e7 (ne 1 (by omega) (by omega))),λc=>(h.r c).ext (e7 (ne 2 (by omega) (by omega))),λc=>(h.c c).ext (e7 (ne 3 (by omega) (by omega))),λc=>(h.m c).ext (e7 (ne 4 (by omega) (by omega))),λj e=>?_,h.inj,h.ge⟩;by_cases l:j=i
 ·subst l;obtain⟨_,g,i,n⟩:=h.row j e;rw[f]at g;cases g;refine⟨_,b1,by rw[sB];exact i,λb c=>?_⟩;obtain⟨p,o,q⟩:=n b c;by_cases a:b=k
  ·subst a;refine⟨u,by rw[List.getElem?_set,aT rfl,aT (by omega)],?_⟩;simpa using m.up d
  ·refine⟨p,by rw[ql a];exact o,?_⟩;simpa [a]using q.up d
 ·have:=(h.row j e).ext d (e7 (ne _ (by omega) (by omega)));refine this.congr λb _=>?_;simp[l]
theorem cl.congr{a:bd}(h:cl P ak H ai lc bo T)(d:∀x,x<P.n+P.m->a.v x=T.v x)(e:∀i,i<P.m->a.rows i=T.rows i)(f:∀k,k<P.n->a.a k=T.a k)(g:∀i k,i<P.m->k<P.n->a.M i k=T.M i k):cl P ak H ai lc bo a where
 t:=h.t
 v:=λb=>by
  obtain⟨a,c,i,j⟩:=h.v b;refine⟨a,c,i,λx c=>?_⟩;obtain⟨p,q,i,k,l,m,a⟩:=j x c;exact⟨p,q,i,k,l,m,a.ah,a.up,by rw[d x c];exact a.v⟩
 r:=λb=>by
  obtain⟨a,c,d,j⟩:=h.r b;exact⟨a,c,d,λi a=>by rw[e i a];exact j i a⟩
 c:=λb=>by
  obtain⟨c,d,e,j⟩:=h.c b;exact⟨c,d,e,λi a=>by rw[f i a];exact j i a⟩
 m:=h.m
 row:=λi a=>(h.row i a).congr λk b=>g i k a b
 inj:=h.inj
 ge:=h.ge
theorem mq.set{b k:Nat}{f:Nat->Nat}(h:mq H b k f){i v:Nat}(aJ:i<k){bN:List Value}(c:H.get b=some (.cells bN (.n 1))):mq (H.put b (.cells (bN.set i (.int .i64 (v:Int))) (.n 1))) b k λj=>if j=i then v else f j:=by
 obtain⟨_,a,b,d⟩:=h;rw[c]at a;cases a;refine⟨_,b1,by rw[sB];exact b,λj f=>?_⟩;by_cases e:j=i
 ·subst e;rw[List.getElem?_set,aT rfl,aT (by omega)];simp
 ·rw[ql e,d j f];simp[e]
theorem cl.SF(h:cl P ak H ai lc bo T)(g:bs pm H){i v:Nat}(aJ:i<P.m){bN:List Value}(d:H.get (ai 2)=some (.cells bN (.n 1))):
 aF pm ak H (H.put (ai 2) (.cells (bN.set i (.int .i64 (v:Int))) (.n 1)))/\cl P ak (H.put (ai 2) (.cells (bN.set i (.int .i64 (v:Int))) (.n 1))) ai lc bo {T with rows:=λj=>if j=i then v else T.rows j}:=by
 have b:aF pm ak H (H.put (ai 2) (.cells (bN.set i (.int .i64 (v:Int))) (.n 1))):=aF.put (.refl g) (h.ge _ (by omega)) d (by simp) _;have ne:∀j,j<5+P.m->j≠2->ai j≠ai 2:=λj c a=>h.ne c (by omega) a;exact⟨b,e7 (ne 0 (by omega) (by omega)) _ h.t,λa=>(h.v a).ext b (e7 (ne 1 (by omega) (by omega))),λa=>(h.r a).set aJ d,λa=>(h.c a).ext (e7 (ne 3 (by omega) (by omega))),λa=>(h.m a).ext (e7 (ne 4 (by omega) (by omega))),λj c=>(h.row j c).ext b (e7 (ne _ (by omega) (by omega))),h.inj,h.ge⟩
theorem cl.hX(h:cl P ak H ai lc bo T)(g:bs pm H){i v:Nat}(aJ:i<P.n){bN:List Value}(e:H.get (ai 3)=some (.cells bN (.n 1))):
 aF pm ak H (H.put (ai 3) (.cells (bN.set i (.int .i64 (v:Int))) (.n 1)))/\cl P ak (H.put (ai 3) (.cells (bN.set i (.int .i64 (v:Int))) (.n 1))) ai lc bo {T with a:=λj=>if j=i then v else T.a j}:=by
 have c:aF pm ak H (H.put (ai 3) (.cells (bN.set i (.int .i64 (v:Int))) (.n 1))):=aF.put (.refl g) (h.ge _ (by omega)) e (by simp) _;have ne:∀j,j<5+P.m->j≠3->ai j≠ai 3:=λj d b=>h.ne d (by omega) b;exact⟨c,e7 (ne 0 (by omega) (by omega)) _ h.t,λb=>(h.v b).ext c (e7 (ne 1 (by omega) (by omega))),λb=>(h.r b).ext (e7 (ne 2 (by omega) (by omega))),λb=>(h.c b).set aJ e,λb=>(h.m b).ext (e7 (ne 4 (by omega) (by omega))),λj d=>(h.row j d).ext c (e7 (ne _ (by omega) (by omega))),h.inj,h.ge⟩
end
structure gQ(P:bu)(T:bd)(t:Nat):Prop where
 v:∀x,x<P.n+P.m->wm P T.v x t
 M:∀i k,i<P.m->k<P.n->aS (T.M i k) t
structure ll(P:bu):Prop where
 n:P.n<=20
 m:P.m<=40
section
variable{P:bu}{ak:Nat}{ai:Nat->Nat}{lc bo:Value}{T:bd}
theorem k9(b k:Nat):∃a,aP b k=.slice a k k/\(0<k->a=some ⟨b,0,none⟩):=by
 by_cases h:k=0
 ·subst h;exact⟨none,rfl,λh=>by omega⟩
 ·exact⟨_,cO (by omega),λ_=>rfl⟩
theorem Ja(h:dx P T){af:Nat}(a:af<P.n){q:Rat}{i:Nat}(aJ:i<P.m):fj T af q i (T.rows i)=T.v (T.rows i):=by
 rw[BO h a aJ i (by omega),aC (by omega)]
theorem Jd(k:ep X)(c:bs pm aj)(O:pm.ah<=ak)(Q:ak<=aj.next)(R:ll P)(g:cl P ak aj ai lc bo T)(r:dx P T){t:Nat}(h:t<=100000)(s:gQ P T t){af:Nat}(d:af<P.n){w:Value}{q:Rat}(S:b9 aj w q)(D:aS q t):
 Call X pm F.nx [.pointer (some ⟨ai 0,0,none⟩),.int .i64 (af:Int),w] aj λ_ aa=>aF pm ak aj aa/\cl P ak aa ai lc bo (T.e6 P af q):=by
 refine Call.P k.nx rfl λ_ hQ=>?_;have ar:=R.n;have ar:=R.m;have u:0<P.n+P.m:=by omega
 obtain⟨az,y,_,R⟩:=g.v u;obtain⟨_,U,_,c3⟩:=g.c (by omega);have z:=r.c af d;obtain⟨_,_,al,_,_,e3,e4⟩:=R _ z;have an:=c3 af d;have A:=g.t;rw[cO u,cO (show 0<P.n by omega)]at A;have ao:∀R i,i<5+P.m->Perm.may ⟨pm.ah,pm.ok,R⟩ (ai i)=true:=λR i b=>eG (aY O (g.ge i b));have R:T.a af<1000:=by omega
 simp[-EJ];refine cy.of c.ah rfl ?_;have R:=c.lt A;have ar:=c.lt y;have ar:=c.lt U;simp[b7,c.none,c.J,A,y,U,d,an,z,cj,cd,R, ar,  -yZ];have A:K pm aj (aj.up 13):=(K.refl c).up 13;simp[e3,-yZ];have R:=(s.v _ z).v;refine aq.of (az:=[al,w]) (by simp) (by simp) (q5 k.tozg A.h (e4.v.up A).of (S.up A).of (R.bw (aY h (by decide))) (D.bw (aY h (by decide)))) ?_;rintro _ V ⟨R,W⟩;have l:=A.trans R;have A:=l.h;obtain⟨Y,t2⟩:=(g.k c l).K8 A z W (l.some c y);have au:=l.some c y;obtain⟨Z,rfl,_⟩:=id W;have av:=ao pm.num 1 (by omega);have aw:T.a af*3+2<az.length:=by omega
 have c:fj T af q 0=λy=>if y=T.a af then T.v (T.a af)+q else T.v y:=by
  funext x;show(if x=T.a af then T.v x+q else T.v x)=_;by_cases e:x=T.a af
  ·simp[e]
  ·simp[e]
 have E:cl P ak (V.put (ai 1) (.cells (az.set (T.a af*3+2) (.pointer (some ⟨Z,0,none⟩))) (.n 3))) ai lc bo {T with v:=fj T af q 0}:=by rw[c];exact t2
 obtain⟨G,ab⟩:∃G,G=V.put (ai 1) (.cells (az.set (T.a af*3+2) (.pointer (some ⟨Z,0,none⟩))) (.n 3)):=⟨_,rfl⟩;rw[<-ab]at Y E;have y:aF pm ak aj G:=(l.mono Q).trans Y;have c:=E.t;obtain⟨l,z,ax⟩:=k9 (ai 4) P.m;rw[z]at c;simp[au,av,aw,<-ab,c,-EI]
 refine eE (σ:=Unit) P.m (λ_ _=>[(0,.pointer (some ⟨ai 0,0,none⟩)),(1,.int .i64 (af:Int)),(2,w),(34,.slice l P.m P.m)])
  (λi _ aa=>aF pm ak aj aa/\cl P ak aa ai lc bo {T with v:=fj T af q i}) () (by decide) (by omega) (by simp) ⟨y,E⟩ (by simp) ?_ ?_
 ·rintro i _ m b ⟨n,f⟩;have a:=n.h;obtain rfl:=ax (by omega);obtain⟨_,c,_,l⟩:=f.m (by omega);obtain⟨_,F,_,y⟩:=f.row i b;obtain⟨X,aa,H⟩:=y af d;have y:=l i b;simp[c,y,b,F,aa,d];refine aq.of (az:=[X]) (by simp) (by simp) (jr k.tozg a H.of ((s.M i af b d).bw (aY h (by decide)))) ?_;rintro _ m ⟨rfl,rfl⟩;by_cases I:T.M i af=0
  ·simp[hB,I];refine⟨n,f.congr (λx _=>?_) (λ_ _=>rfl) (λ_ _=>rfl) λ_ _ _ _=>rfl⟩;show(if x=T.rows i then fj T af q i x+T.M i af*q else fj T af q i x)=fj T af q i x;rw[I];split<;>grind
  ·obtain⟨aj,B,_,c⟩:=f.v u;obtain⟨_,r1,_,l⟩:=f.r (by omega);have C:=r.r i b;obtain⟨_,_,pv,_,_,f3,y⟩:=c _ C;have J:=f.t;rw[cO u,cO (show 0<P.m by omega)]at J;have ak:=l i b;have q0:=a.lt J;have c:=a.lt B;have q2:=a.lt r1;have c:=a.lt F;have fv:b9 m pv (T.v (T.rows i)):=by
    have:=y.v;rwa [show({T with v:=fj T af q i}:bd).v (T.rows i)=fj T af q i (T.rows i) from rfl,Ja r d b]at this
   simp[hB,I,-yY];refine cy.of a.ah rfl ?_;simp[b7,a.none,a.J,J, r1,b,ak,C,cj,cd,q0, q2,  -yY];have o:K pm m (m.up 13):=(K.refl a).up 13;generalize m.up 13=P at o|-;have e:=o.h;have ad:=o.some a B;have ae:=o.some a F;have aq:=e.lt ad;have ay:=e.lt ae;refine cy.of e.ah rfl ?_;have c:K pm P (P.up 15):=(K.refl e).up 15;have j:=o.trans c;have v:t<=fo:=aY h (by decide);have aA:t+t<=fo:=aY (Nat.add_le_add h h) (by decide);simp[b7,e.none,e.J,ad,f3,ae,aa,d];have ag:=(S.up n).up j;have ah:=s.M i af b d;refine eM c.h (az:=[X,w]) (by simp[e.none]) (by simp) (by simp) rfl (λaB L=>pY k.tozg L (H.up j).of ag.of (ah.bw v) (D.bw v)) ?_;rintro c _ p f6;have h:=p.res e;simp;refine gS p.h (az:=[pv,c]) (by simp[h]) (by simp) (by simp) rfl (λaB L=>q5 k.tozg L ((fv.up j).up p).of f6.of ((s.v _ C).v.bw v) ((kt ah D).bw aA)) ?_;rintro _ _ M f7;have x2:=(K.trans p M).res e;have N:=j.trans (p.trans M);have ai:=N.some a B;obtain⟨_,rfl,_⟩:=id f7;have c:=λm=>nO (H.up j) ag (j.some a B) m;simp[x2,ai,eG (aY O (g.ge 1 (by omega))),show T.rows i*3+2<aj.length by omega,cj,cd,aq,ay, dM,c];obtain⟨c,e⟩:=(f.k a N).K8 M.h C f7 ai;refine⟨(n.k N (aY Q n.next)).trans c,e.congr (λx _=>?_) (λ_ _=>rfl) (λ_ _=>rfl) λ_ _ _ _=>rfl⟩;show(if x=T.rows i then fj T af q i x+T.M i af*q else fj T af q i x)=if x=T.rows i then T.v (T.rows i)+T.M i af*q else fj T af q i x
   by_cases e:x=T.rows i
   ·rw[aT e,aT e,e,Ja r d b]
   ·rw[aC e,aC e]
 ·rintro _ _ ⟨a,b⟩;simp;refine hQ _ _ _ ?_;simp;exact⟨a,b⟩
end
section
variable{P:bu}{ak:Nat}{ai:Nat->Nat}{lc bo:Value}{T:bd}
def k7(T:bd)(i k:Nat)(r:Nat->Rat):bd:={T with M:=λx y=>if x=i/\y<k then r y else T.M x y}
theorem vh{i k:Nat}{r:Nat->Rat}{q:Rat}(h:q=r k)(x y:Nat):(k7 T i (k+1) r).M x y=if x=i/\y=k then q else(k7 T i k r).M x y:=by
 subst h;show(if x=i/\y<k+1 then r y else T.M x y)=if x=i/\y=k then r k else(if x=i/\y<k then r y else T.M x y)
 by_cases e:x=i
 ·by_cases a:y=k
  ·subst a;simp[e]
  ·by_cases b:y<k
   ·simp[e,a,b,show y<k+1 by omega]
   ·simp[e,a,b,show ¬y<k+1 by omega]
 ·simp[e]
theorem KC{i k:Nat}{r:Nat->Rat}(h:T.M i k=r k)(x y:Nat):(k7 T i (k+1) r).M x y=(k7 T i k r).M x y:=by
 rw[vh rfl];split
 ·rename_i e;obtain⟨rfl,rfl⟩:=e;show r y=if x=x/\y<y then r y else T.M x y
  simp[h]
 ·rfl
theorem KB{i k:Nat}{r:Nat->Rat}:(k7 T i k r).M i k=T.M i k:=by
 show(if i=i/\k<k then r k else T.M i k)=_;simp
def fE(T:bd)(a af i k:Nat):Rat:=if k=af then T.M i af*T.M a af else T.M i k+T.M i af*T.M a k
theorem RR(m:ep X)(M:bs pm aj)(C:pm.ah<=ak)(D:ak<=aj.next)(E:ll P)(n:cl P ak aj ai lc bo T){t:Nat}(q:t<=400000)(r:∀i k,i<P.m->k<P.n->aS (T.M i k) t){a i af:Nat}(F:a<P.m)(aJ:i<P.m)(G:i≠a)(N:af<P.n)
 {w:Value} (O:b9 aj w (T.M i af)) {L:bb} {u64:Value} (R:aK 0 L=some (.pointer (some ⟨ai 0,0,none⟩))) (S:aK 1 L=some (.int .i64 (a:Int))) (U:aK 2 L=some (.int .i64 (af:Int))) (V:aK 6 L=some (.slice (some ⟨ai (5+a),0,none⟩) P.n P.n)) (G:aK 10 L=some (.slice (some ⟨ai (5+i),0,none⟩) P.n P.n)) (W:aK 11 L=some w)
 (Y:aK 64 L=some u64) (Z:aK 65 L=some (.int .i64 (P.m:Int))) (ab:aK 66 L=some (.int .i64 (i:Int))) {Q:b5}
 (ad:∀aN aa,aF pm ak aj aa->cl P ak aa ai lc bo (k7 T i P.n (fE T a af i))->Sub [(66,.int .i64 (i:Int)),(65,.int .i64 (P.m:Int)),(0,.pointer (some ⟨ai 0,0,none⟩)),(1,.int .i64 (a:Int)),(2,.int .i64 (af:Int)),(6,.slice (some ⟨ai (5+a),0,none⟩) P.n P.n),(64,u64)] aN->Q .normal aN aa):
 wp X pm (.code tc) L aj [] Q:=by
 have ah:=E.n;have ah:=E.m;have e:t<=fo:=aY q (by decide);have ae:t+t<=fo:=aY (Nat.add_le_add q q) (by decide);have ag:=eG (ok:=pm.ok) (o:=pm.num) (aY C (n.ge (5+i) (by omega)));have q:=n.ne (i:=5+i) (j:=5+a) (by omega) (by omega) (by omega);simp[G,-EK]
 refine eE (σ:=Unit) P.n (λ_ _=>[(66,.int .i64 (i:Int)),(65,.int .i64 (P.m:Int)),(0,.pointer (some ⟨ai 0,0,none⟩)),(1,.int .i64 (a:Int)),(2,.int .i64 (af:Int)),(6,.slice (some ⟨ai (5+a),0,none⟩) P.n P.n),(10,.slice (some ⟨ai (5+i),0,none⟩) P.n P.n),(11,w),(64,u64)])
  (λk _ aa=>aF pm ak aj aa/\cl P ak aa ai lc bo (k7 T i k (fE T a af i))) () (by decide) (by omega) (by simp[R,S,U,V,G,W,Y,Z,ab]) ⟨aF.refl M,n.congr (λ_ _=>rfl) (λ_ _=>rfl) (λ_ _=>rfl) λ_ _ _ _=>by simp[k7]⟩ (by simp) ?_ ?_
 ·rintro k _ s c ⟨d,g⟩;have b:=d.h;obtain⟨H,h,_,q⟩:=g.row i aJ;obtain⟨_,j,_,E⟩:=g.row a F;obtain⟨P,Q,I⟩:=q k c;obtain⟨t,u,f⟩:=E k c;rw[KB]at I;have q:(k7 T i k (fE T a af i)).M a k=T.M a k:=by
   show(if a=i/\k<k then _ else _)=_;rw[aC (by omega)]
  rw[q]at f;have o:=O.up d;have v:=r i af aJ N;have p:=r a k F c;have X:=r i k aJ c;by_cases x:k=af
  ·subst x;simp[j,u,c,-EY];refine aq.of (az:=[w,t]) (by simp) (by simp) (pY m.tozg b o.of f.of (v.bw e) (p.bw e)) ?_;rintro _ _ ⟨a,i⟩;obtain⟨_,rfl,_⟩:=id i;have l:=a.some b h;obtain⟨q,r⟩:=(g.k b a).yv a.h aJ c i l;simp[l,c,ag,show k<H.length by omega];refine⟨(d.k a (aY D d.next)).trans q,r.congr (λ_ _=>rfl) (λ_ _=>rfl) (λ_ _=>rfl) λa y _ _=>vh (by simp[fE]) a y⟩
  ·have q:¬((k:Int)=(af:Int)):=by omega
   simp[q,j,u,c,-EZ,-ES];refine aq.of (az:=[t]) (by simp) (by simp) (jr m.tozg b f.of (p.bw e)) ?_;rintro _ s ⟨rfl,rfl⟩;by_cases y:T.M a k=0
   ·simp[hB,y];refine⟨d,g.congr (λ_ _=>rfl) (λ_ _=>rfl) (λ_ _=>rfl) λa i _ _=>KC ?_ a i⟩;rw[fE,aC x,y];grind
   ·have T:=b.lt h;have aa:=b.lt j;simp[hB,y];refine cy.of b.ah rfl ?_;have a:K pm s (s.up 15):=(K.refl b).up 15;simp[b7,b.none,b.J,h,Q,j,u,c];have d1:=λq=>nO (o.up a) (f.up a) (a.some b h) q;have r:=λq=>nO (o.up a) (f.up a) (a.some b j) q;refine eM a.h (az:=[w,t]) (by simp[b.none]) (by simp) (by simp) rfl (λaf z=>pY m.tozg z (o.up a).of (f.up a).of (v.bw e) (p.bw e)) ?_;rintro f _ l f6;have j:=l.res b;simp;refine gS l.h (az:=[P,f]) (by simp[j]) (by simp) (by simp) rfl (λaf z=>q5 m.tozg z ((I.up a).up l).of f6.of (X.bw e) ((kt v p).bw ae)) ?_;rintro _ _ A J;have x2:=(K.trans l A).res b;have B:=a.trans (l.trans A);have L:=B.some b h;obtain⟨_,rfl,_⟩:=id J;simp[x2,L,c,eG (aY C (n.ge (5+i) (by omega))),show k<H.length by omega,cj,cd,T,aa, dM,d1,];obtain⟨a,e⟩:=(g.k b B).yv A.h aJ c J L;refine⟨(d.k B (aY D d.next)).trans a,e.congr (λ_ _=>rfl) (λ_ _=>rfl) (λ_ _=>rfl) λa y _ _=>vh (by simp[fE,x]) a y⟩
 ·rintro _ _ ⟨a,b⟩;simp;exact ad _ _ a b (by simp)
end
section
variable{P:bu}{ak:Nat}{ai:Nat->Nat}{lc bo:Value}{T:bd}
theorem QK{a af k t:Nat}(b:∀k,k<P.n->aS (T.M a k) t)(e:k<P.n)(c:af<P.n)(d:T.M a af≠0):aS (dO T a af k) (2*t):=by
 unfold dO;split
 ·exact en (Ll (b af c) d) (by omega)
 ·exact yG (oF (b k e)) (b af c) d
def j3(T:bd)(a af i:Nat):bd:={T with M:=λx y=>if x=a then dO T a af y else if x<i then(T.H a af).M x y else T.M x y}
theorem RS(e:ep X)(B:bs pm aj)(C:pm.ah<=ak)(p:ak<=aj.next)(D:ll P)(q:cl P ak aj ai lc bo T){t:Nat}(E:t<=100000){a af:Nat}(i:a<P.m)(F:af<P.n)(r:∀k,k<P.n->aS (T.M a k) t)(s:T.M a af≠0)
 {w:Value} (G:b9 aj w (T.M a af)) {au:List Fr} {L:bb} (H:aK 0 L=some (.pointer (some ⟨ai 0,0,none⟩))) (I:aK 1 L=some (.int .i64 (a:Int))) (J:aK 2 L=some (.int .i64 (af:Int))) (K:aK 6 L=some (.slice (some ⟨ai (5+a),0,none⟩) P.n P.n)) (M:aK 7 L=some w) (N:aK 25 L=some (.int .i64 (P.n:Int))) (O:aK 26 L=some (.int .i64 0)) {Q:b5}
 (R:∀aN aa,aF pm ak aj aa->cl P ak aa ai lc bo (j3 T a af 0)->Sub [(0,.pointer (some ⟨ai 0,0,none⟩)),(1,.int .i64 (a:Int)),(2,.int .i64 (af:Int)),(6,.slice (some ⟨ai (5+a),0,none⟩) P.n P.n)] aN->wp X pm (.res .normal) aN aa au Q):
 wp X pm (.code y0) L aj au Q:=by
 have S:=D.n;have f:t<=fo:=aY E (by decide);have u:=eG (ok:=pm.ok) (o:=pm.num) (aY C (q.ge (5+a) (by omega)));simp[-EM]
 refine eE (σ:=Unit) P.n (λ_ _=>[(0,.pointer (some ⟨ai 0,0,none⟩)),(1,.int .i64 (a:Int)),(2,.int .i64 (af:Int)),(6,.slice (some ⟨ai (5+a),0,none⟩) P.n P.n),(7,w)])
  (λk _ aa=>aF pm ak aj aa/\cl P ak aa ai lc bo (k7 T a k (dO T a af))) () (by decide) (by omega) (by simp[H,I,J,K,M,N,O]) ⟨aF.refl B,q.congr (λ_ _=>rfl) (λ_ _=>rfl) (λ_ _=>rfl) λ_ _ _ _=>by simp[k7]⟩ (by simp) ?_ ?_
 ·rintro k _ L b ⟨c,g⟩;have d:=c.h;obtain⟨q,h,_,B⟩:=g.row a i;obtain⟨o,t,j⟩:=B k b;rw[KB]at j;have v:=G.up c;have x:=r af F;have l:=r k b;have y:k<q.length:=by omega
  by_cases m:k=af
  ·subst m;simp[-EU];refine aq.of (az:=[.int .i64 1]) (by simp) (by simp) (o0 e.tozg d (n:=1) (by omega) (by omega)) ?_;rintro r _ ⟨a,k⟩;simp[-ET];refine aq.of (az:=[r,w]) (by simp) (by simp) (vT e.tozg a.h k.of (v.up a).of (by decide) (x.bw f) s) ?_;rintro _ _ ⟨z,_,rfl,A⟩;obtain⟨_,rfl,_⟩:=id A;have k:=a.trans z;have a:=k.some d h;obtain⟨q,r⟩:=(g.k d k).yv z.h i b A a;simp[a,b,u,y];refine⟨(c.k k (aY p c.next)).trans q,r.congr (λ_ _=>rfl) (λ_ _=>rfl) (λ_ _=>rfl) λa k _ _=>vh (by simp[dO]) a k⟩
  ·have q:¬((k:Int)=(af:Int)):=by omega
   simp[q,h,t,b,-EX,-EP];refine aq.of (az:=[o]) (by simp) (by simp) (jr e.tozg d j.of (l.bw f)) ?_;rintro _ L ⟨rfl,rfl⟩;by_cases n:T.M a k=0
   ·simp[hB,n];refine⟨c,g.congr (λ_ _=>rfl) (λ_ _=>rfl) (λ_ _=>rfl) λa k _ _=>KC ?_ a k⟩;rw[dO,aC m,n];grind
   ·simp[hB,n,h,t,b,-EW];refine aq.of (az:=[o]) (by simp) (by simp) (wa e.tozg d j.of (l.bw f)) ?_;rintro r _ ⟨a,j⟩;simp[-EV];refine aq.of (az:=[r,w]) (by simp) (by simp) (vT e.tozg a.h j.of (v.up a).of ((oF l).bw f) (x.bw f) s) ?_;rintro _ _ ⟨k,_,rfl,z⟩;obtain⟨_,rfl,_⟩:=id z;have e:=a.trans k;have a:=e.some d h;obtain⟨f,h⟩:=(g.k d e).yv k.h i b z a;simp[a,b,u,y];refine⟨(c.k e (aY p c.next)).trans f,h.congr (λ_ _=>rfl) (λ_ _=>rfl) (λ_ _=>rfl) λx y _ _=>vh (by simp[dO,m]) x y⟩
 ·rintro _ _ ⟨b,c⟩;simp;refine R _ _ b (c.congr (λ_ _=>rfl) (λ_ _=>rfl) (λ_ _=>rfl) λx y _ b=>?_) (by simp);show(if x=a then dO T a af y else if x<0 then _ else T.M x y)=if x=a/\y<P.n then dO T a af y else T.M x y
  by_cases e:x=a
  ·simp[e,b]
  ·simp[e]
end
section
variable{P:bu}{ak:Nat}{ai:Nat->Nat}{lc bo:Value}{T:bd}
theorem I4{a af i:Nat}(h:i=a∨T.M i af=0)(x y:Nat):(j3 T a af (i+1)).M x y=(j3 T a af i).M x y:=by
 show(if x=a then dO T a af y else if x<i+1 then(T.H a af).M x y else T.M x y)=if x=a then dO T a af y else if x<i then(T.H a af).M x y else T.M x y
 by_cases e:x=a
 ·simp[e]
 ·by_cases b:x=i
  ·subst b;have h:T.M x af=0:=h.resolve_left e;simp only[e,if_false,Nat.lt_irrefl,nd,if_true];show(if x=a then _ else if y=af then T.M x af*dO T a af af else T.M x y+T.M x af*dO T a af y)=T.M x y;rw[aC e,h];split
   ·rename_i c;subst c;rw[h];grind
   ·grind
  ·by_cases a:x<i
   ·simp[e,a,show x<i+1 by omega]
   ·simp[e,a,show ¬x<i+1 by omega]
theorem I3{a af i:Nat}(b:i≠a):(j3 T a af i).M i=T.M i:=by
 funext y;show(if i=a then dO T a af y else if i<i then(T.H a af).M i y else T.M i y)=_;simp[b]
theorem QA{a af i:Nat}:(j3 T a af i).M a=dO T a af:=by
 funext y;show(if a=a then dO T a af y else _)=_;simp
theorem QB{a af i w:Nat}(b:i≠a)(x y:Nat)(d:y<w):(j3 T a af (i+1)).M x y=(k7 (j3 T a af i) i w (fE (j3 T a af i) a af i)).M x y:=by
 show(if x=a then dO T a af y else if x<i+1 then(T.H a af).M x y else T.M x y)=if x=i/\y<w then fE (j3 T a af i) a af i y else(j3 T a af i).M x y
 by_cases c:x=i
 ·subst c;simp only[b,if_false,nd,if_true,d,and_self];rw[fE,I3 b,QA];show(if x=a then _ else if y=af then T.M x af*dO T a af af else T.M x y+T.M x af*dO T a af y)=_;rw[aC b]
 ·simp only[c,false_and,if_false];show _=if x=a then dO T a af y else if x<i then(T.H a af).M x y else T.M x y
  by_cases a:x<i
  ·simp[a,show x<i+1 by omega]
  ·simp[a,show ¬x<i+1 by omega]
theorem J'(n:ep X)(Y:bs pm aj)(p:pm.ah<=ak)(z:ak<=aj.next)(q:ll P)(g:cl P ak aj ai lc bo T){t:Nat}(au:1<=t)(Z:t<=90000)(h:∀i k,i<P.m->k<P.n->aS (T.M i k) t){a af:Nat}(d:a<P.m)(c:af<P.n)(I:T.M a af≠0):
 Call X pm F.ny [.pointer (some ⟨ai 0,0,none⟩),.int .i64 (a:Int),.int .i64 (af:Int)] aj λ_ aa=>aF pm ak aj aa/\cl P ak aa ai lc bo (T.H a af):=by
 refine Call.P n.ny rfl λ_ hQ=>?_;have av:=q.n;have aw:=q.m;have ax:t<=fo:=aY Z (by decide);have l:0<P.m:=by omega
 have J:0<P.n:=by omega
 have L:=g.t;rw[cO (b:=ai 4) l]at L;obtain⟨_,m1,_,m3⟩:=g.m l;have ab:=m3 a d;obtain⟨_,p1,_,p3⟩:=g.row a d;obtain⟨_,ad,ae⟩:=p3 af c;simp[L,m1,ab,d,-ER];simp[p1,ad,c,-y0,-EO];refine RS n Y p z q g (t:=t) (by omega) d c (λk A=>h a k d A) I ae (by simp) (by simp) (by simp) (by simp) (by simp) (by simp) (by simp) (λ_ _ u1 M N=>?_);simp only[ts]at N;obtain⟨O,j1,j2,j6,_⟩:=N;have Q:=M.t;rw[cO (b:=ai 4) l]at Q;have R:∀i x y,x<P.m->y<P.n->aS ((j3 T a af i).M x y) (4*t+1):=λi x y m f=>by
  have b:=λy f=>QK (T:=T) (a:=a) (af:=af) (k:=y) (λk A=>h a k d A) f c I;show aS (if x=a then dO T a af y else if x<i then(T.H a af).M x y else T.M x y) _;split
  ·exact en (b y f) (by omega)
  ·rename_i ag;split
   ·show aS (if x=a then _ else if y=af then T.M x af*dO T a af af else T.M x y+T.M x af*dO T a af y) _;rw[aC ag];split
    ·exact en (kt (h x af m c) (b af c)) (by omega)
    ·exact en (s0 (h x y m f) (kt (h x af m c) (b y f))) (by omega)
   ·exact en (h x y m f) (by omega)
 simp[O,Q,-EN,-EL]
 refine eE (σ:=Unit) P.m (λ_ _=>[(0,.pointer (some ⟨ai 0,0,none⟩)),(1,.int .i64 (a:Int)),(2,.int .i64 (af:Int)),(6,.slice (some ⟨ai (5+a),0,none⟩) P.n P.n),(64,.slice (some ⟨ai 4,0,none⟩) P.m P.m)])
  (λi _ aa=>aF pm ak aj aa/\cl P ak aa ai lc bo (j3 T a af i)) () (by decide) (by omega) (by simp[O,j1,j2,j6]) ⟨u1,M⟩ (by simp) ?_ ?_
 ·rintro i _ v b ⟨e,j⟩;have r:=e.h;have w:=aY z e.next;obtain⟨_,B,_,C⟩:=j.m l;have D:=C i b;obtain⟨_,E,_,F⟩:=j.row i b;obtain⟨G,H,s⟩:=F af c;simp[B,D,b,E,H,c,bz,-y1,-tc];by_cases k:i=a
  ·subst k;simp;refine aq.not (by simp) ?_;simp[bz];exact⟨e,j.congr (λ_ _=>rfl) (λ_ _=>rfl) (λ_ _=>rfl) λx y _ _=>I4 (.inl rfl) x y⟩
  ·have K:¬((i:Int)=(a:Int)):=by omega
   have S:((i:Int)==(a:Int))=false:=by simpa using K
   simp[S,-y1,-tc];have u:(j3 T a af i).M i af=T.M i af:=by rw[I3 k]
   refine aq.of (az:=[G]) (by simp) (by simp) (jr n.tozg r s.of ((R i i af b c).bw (aY (show 4*t+1<=400000 by omega) (by decide)))) ?_;rintro _ v ⟨rfl,rfl⟩;by_cases o:T.M i af=0
   ·simp[hB,u,o,];exact⟨e,j.congr (λ_ _=>rfl) (λ_ _=>rfl) (λ_ _=>rfl) λx y _ _=>I4 (.inr o) x y⟩
   ·simp[hB,u,o, -tc];refine RR n r p w q j (t:=4*t+1) (by omega) (R i) d b k c s (u64:=.slice (some ⟨ai 4,0,none⟩) P.m P.m) (by simp) (by simp) (by simp) (by simp) (by simp) (by simp) (by simp) (by simp) (by simp) λ_ aa a T U=>?_;simp;exact⟨by simpa using U,e.trans a,T.congr (λ_ _=>rfl) (λ_ _=>rfl) (λ_ _=>rfl) λx y _ f=>QB k x y f⟩
 ·rintro _ r ⟨B,k⟩;have e:=B.h;have C:=k.t;rw[cO (b:=ai 2) l,cO (b:=ai 3) J]at C;obtain⟨D,E,_,X⟩:=k.r l;obtain⟨F,G,_,c3⟩:=k.c J;have aa:=X a d;have ah:=c3 af c;have S:a<D.length:=by omega
  have U:af<F.length:=by omega
  have r4:D[a]=.int .i64 (T.rows a:Int):=by
   have:=eu S;rw[aa]at this;exact(jF this).symm
  have c4:F[af]=.int .i64 (T.a af:Int):=by
   have:=eu U;rw[ah]at this;exact(jF this).symm
  have aj:=e.lt C;have ak:=e.lt E;have al:=e.lt G;have an:=k.ne (i:=2) (j:=3) (by omega) (by omega) (by decide);have ao:=λo=>eG (ok:=pm.ok) (o:=o) (aY p (g.ge 2 (by omega)));have aq:=λo=>eG (ok:=pm.ok) (o:=o) (aY p (g.ge 3 (by omega)));simp;refine cy.of e.ah rfl ?_;obtain⟨b,s⟩:∃b,b=(r.up 28).put (ai 2) (.cells (D.set a (.int .i64 (T.a af:Int))) (.n 1)):=⟨_,rfl⟩;have V:b.get (ai 3)=some (.cells F (.n 1)):=by rw[s,a7 (Ne.symm an)];exact G
  have ar:∀t,b.get (r.next+t)=none:=λt=>by rw[s,a7 (by omega)];exact e.none t
  simp[b7,e.none,e.J,<-s,V,ar,C,E, d,G, c,ao,aq,S,U,r4,c4,bz,  cj,cd,aj,ak,al,];have u:K pm r (r.up 28):=(K.refl e).up 28;obtain⟨H,W⟩:=(k.k e u).SF u.h d (v:=T.a af) (u.some e E);rw[<-s]at H W;obtain⟨u4,t4⟩:=W.hX H.h c (v:=T.rows a) V;refine hQ _ _ _ ?_;simp;refine⟨((B.k u (aY z B.next)).trans H).trans u4,t4.congr (λ_ _=>rfl) (λ_ _=>rfl) (λ_ _=>rfl) λx y m _=>?_⟩;show(if x=a then dO T a af y else if y=af then _ else _)=if x=a then dO T a af y else if x<P.m then(T.H a af).M x y else T.M x y
  by_cases w:x=a
  ·simp[w]
  ·rw[aC w,aC w,aT m];show _=if x=a then _ else _
   rw[aC w]
end
def c2:Option Nat->Int
 | none=>-1
 | some k=>k
theorem p1.load{P:bu}{b k:Nat}{v:Nat->Rat}(h:p1 H P b k v){x:Nat}(e:x<k):∃bN p q c,H.get b=some (.cells bN (.n 3))/\bx bN (x*3) 3=some [p,q,c]/\jN H P v x p q c:=by
 obtain⟨bN,f,_,g⟩:=h;obtain⟨p,q,c,a,b,d,i⟩:=g x e;refine⟨bN,p,q,c,f,?_,i⟩;have e:x*3+2<bN.length:=by omega
 unfold bx;rw[cg,ix (show x*3+3<=bN.length by omega),cond_true];rw[xh (show x*3<bN.length by omega),xh (show x*3+1<bN.length by omega),xh e];rw[eu (by omega)]at a b d;cases a;cases b;cases d;rfl
section
variable{P:bu}{ak:Nat}{ai:Nat->Nat}{lc bo:Value}{T:bd}
theorem tG{p:Nat->Bool}{a:Nat->Nat}{k:Nat}(h:p k=false):dL p a (k+1)=dL p a k:=by
 rw[dL];cases dL p a k<;>simp[h]
theorem tF{p:Nat->Bool}{a:Nat->Nat}{k b:Nat}(h:dL p a k=some b):b<k:=(lr h).1
theorem ON(o:ep X)(x:bs pm aj)(u:ll P)(j:cl P ak aj ai lc bo T)(ix:dx P T){t:Nat}(O:t<=100000)(Q:gQ P T t){a:Nat}(q:a<P.m){aG:Int}(ag:aG=1∨aG=-1):
 Call X pm F.oN [.pointer (some ⟨ai 0,0,none⟩),.int .i64 (a:Int),.int .i64 aG] aj λr aa=>K pm aj aa/\r=.int .i64 (c2 (kM P T a aG)):=by
 refine Call.P o.oN rfl λ_ hQ=>?_;have ao:=u.n;have ao:=u.m;have R:t<=fo:=aY O (by decide);have u:0<P.m:=by omega
 have L:=j.t;rw[cO (b:=ai 4) u]at L;obtain⟨_,m1,_,m3⟩:=j.m u;have ah:=m3 a q;obtain⟨p,s⟩:∃p:Nat->Bool,p=λk=>decide (T.M a k≠0)&&can P T.v (T.a k) (aG*ck (T.M a k)):=⟨_,rfl⟩;simp[L,m1,ah,q,-Ei]
 refine eE (σ:=Unit) P.n (λk _=>[(0,.pointer (some ⟨ai 0,0,none⟩)),(1,.int .i64 (a:Int)),(2,.int .i64 aG),(7,.int .i64 (c2 (dL p T.a k))),(16,.slice (some ⟨ai (5+a),0,none⟩) P.n P.n)])
  (λk _ aa=>K pm aj aa) () (by decide) (by omega) (by simp[dL,c2]) (K.refl x) (by simp) ?_ ?_
 ·rintro k _ S f r;have c:=r.h;have t:0<P.n:=by omega
  have L:0<P.n+P.m:=by omega
  have u:=j.k x r;have v:=u.t;rw[cO (b:=ai 1) L,cO (b:=ai 3) t]at v;obtain⟨_,y,_,p3⟩:=u.row a q;obtain⟨U,ak,h⟩:=p3 k f;obtain⟨_,z,_,c3⟩:=u.c t;have al:=c3 k f;have A:=ix.c k f;obtain⟨az,va,vb,vc,B,v2,v3⟩:=(u.v L).load A;have V:=Q.M a k q f;have W:=c.lt v;have Y:=c.lt B;have Z:=c.lt z;have q:=c.lt y
  have an:∀(l:ad),K pm aj l->p k=true->∀L:bb,aK 0 L=some (.pointer (some ⟨ai 0,0,none⟩))->aK 1 L=some (.int .i64 (a:Int))->aK 2 L=some (.int .i64 aG)->aK 7 L=some (.int .i64 (c2 (dL p T.a k)))->aK 8 L=some (.int .i64 (k:Int))->
   aK 16 L=some (.slice (some ⟨ai (5+a),0,none⟩) P.n P.n)->aK 17 L=some (.int .i64 (P.n:Int))->aK 18 L=some (.int .i64 (k:Int))->∀q:b5,(∀u aa,K pm aj aa->Sub [(18,.int .i64 (k:Int)),(17,.int .i64 (P.n:Int)),(0,.pointer (some ⟨ai 0,0,none⟩)),(1,.int .i64 (a:Int)),(2,.int .i64 aG),(7,.int .i64 (c2 (dL p T.a (k+1)))),(16,.slice (some ⟨ai (5+a),0,none⟩) P.n P.n)] u->q .normal u aa)->
   wp X pm (.code nw) L l [] q:=by
   intro l C D L m E F i G H I J q M;have e:=C.h;have q:=j.k x C;have w:=q.t;rw[cO (b:=ai 3) t]at w;obtain⟨_,N,_,d3⟩:=q.c t;have ab:=d3 k f;have ad:=e.lt w;have ae:=e.lt N;simp;refine cy.of e.ah rfl ?_;have d:K pm aj (l.up 19):=C.trans ((K.refl e).up 19)
   cases j:dL p T.a k with
   | none=>
     rw[j]at i;simp[b7,e.none,e.J, i,G,    c2,cj,cd,  bz];exact M _ _ d (by simp[m,E,F,H,I,J,dL,j,D,c2,])
   | some b=>
     rw[j]at i;have a:=tF j;have p:b<P.n:=by omega
     have q:=d3 b p;by_cases a:T.a k<T.a b
     ·simp[b7,e.none,e.J,m,i,G,w,N,ab,q,f,p,c2,cj,cd,   ad,ae,a];exact M _ _ d (by simp[m,E,F,H,I,J,dL,j,D,c2, a])
     ·simp[b7,e.none,e.J,m,i,G,w,N,ab,q,f,p,c2,cj,cd,   ad,ae,a];exact M _ _ d (by simp[m,E,F,H,I,J,i,dL,j,D,c2, a])
  simp[y,ak,f,-nw];refine cy.of c.ah rfl ?_;simp[b7, c.J,-nw];have d:K pm S (S.up 24):=(K.refl c).up 24;refine gS d.h (az:=[U]) (by simp[c.none]) (by simp) (by simp) rfl (λaf g=>jR g (jr o.tozg g (h.up d).of (V.bw R))) ?_;rintro _ _-⟨rfl,rfl⟩;by_cases n:T.M a k=0
  ·have b:(ck (T.M a k)==0)=true:=by simp[hB,n]
   simp[b,bz,c.none,-nw];refine fL.not (by simp[c.none]) (by simp) ?_;simp[bz,c.none,-nw];refine fL.not (by simp[c.none]) (by simp) ?_;simp[bz,c.none,cj,cd,  dM];exact⟨by rw[tG (by rw[s];simp[n])],r.trans d⟩
  ·have j:(ck (T.M a k)==0)=false:=by simp[hB,n]
   have p:=yy ag n;have m:wr .i64 (aG*ck (T.M a k))=aG*ck (T.M a k):=b8 (by omega) (by omega);simp[j,c.none,v,B,z,al,f,A,v2,-nw];refine eM d.h (az:=[U]) (by simp[c.none]) (by simp) (by simp) rfl (λaf g=>jR g (jr o.tozg g (h.up d).of (V.bw R))) ?_;rintro _ _-⟨rfl,rfl⟩;simp[c.none,m,-nw];refine gS d.h (az:=[.agg #[va,vb,vc],.int .i64 (aG*ck (T.M a k))]) (by simp[c.none]) (by simp) (by simp[bB]) rfl (λaf g=>GR o g (v3.k d) (Q.v _ A) (aY O (by decide))) ?_;rintro _ l b rfl;have e:=b.res c;have i:=r.trans (d.trans b);have w:=λm=>lz (h.up d) (d.some c v) m;have C:=λm=>lz (h.up d) (d.some c B) m;have D:=λm=>lz (h.up d) (d.some c z) m;have b:=λm=>lz (h.up d) (d.some c y) m
   cases b:can P T.v (T.a k) (aG*ck (T.M a k)) with
   | false=>
     simp[e,cj,cd, W,Y,Z, dM,w,C,D,];exact⟨by rw[tG (by rw[s];simp[b])],i⟩
   | true=>
     simp[e,cj,cd, W,Y,Z, dM,w,C,D, -nw];exact an _ i (by rw[s];simp[n,b]) _ (by simp) (by simp) (by simp) (by simp) (by simp) (by simp) (by simp) (by simp) _ λ_ aa a b=>by
      simp;exact⟨by simpa using b,a⟩
 ·rintro _ _ a;simp;refine hQ _ _ _ ?_;simp[kM,s];exact a
end
section
variable{P:bu}{ak:Nat}{ai:Nat->Nat}{lc bo:Value}{T:bd}
theorem TS(o:ep X)(c:bs pm aj)(i:ll P)(d:cl P ak aj ai lc bo T)(u:dx P T){t:Nat}(v:t<=100000)(w:gQ P T t):
 Call X pm F.oT [.pointer (some ⟨ai 0,0,none⟩)] aj λr aa=>K pm aj aa/\r=.int .i64 (c2 (kv P T)):=by
 refine Call.P o.oT rfl λ_ x=>?_;have z:=i.n;have z:=i.m;have j:=d.t;obtain⟨q,i,y⟩:=k9 (ai 2) P.m;rw[i]at j;obtain⟨p,e⟩:∃p:Nat->Bool,p=λi=>decide (off P T.v (T.rows i)≠0):=⟨_,rfl⟩;simp[j,-Fp]
 refine eE (σ:=Unit) P.m (λk _=>[(0,.pointer (some ⟨ai 0,0,none⟩)),(3,.int .i64 (c2 (dL p T.rows k))),(9,.slice q P.m P.m)])
  (λk _ aa=>K pm aj aa) () (by decide) (by omega) (by simp[dL,c2]) (K.refl c) (by simp) ?_ ?_
 ·rintro k _ _ f g;obtain rfl:=y (by omega);have y:=g.h;have q:0<P.n+P.m:=by omega
  have h:0<P.m:=by omega
  have i:=d.k c g;have r:=i.t;rw[cO (b:=ai 1) q]at r;obtain⟨_,z,_,j⟩:=i.r h;have A:=j k f;have j:=u.r k f;obtain⟨az,u,B,C,D,E,F⟩:=(i.v q).load j;simp[z,A,f,r,D,E,j,-Fq];refine aq.of (az:=[.agg #[u,B,C]]) (by simp) (by simp[bB]) (BV o y F (w.v _ j) (aY v (by decide))) ?_;rintro _ _ ⟨s,rfl⟩;have a:=g.trans s;have f:=s.h;have f:=d.k c a;have l:=f.t;rw[cO (b:=ai 2) h]at l;obtain⟨_,t,_,G⟩:=f.r h;by_cases c:off P T.v (T.rows k)=0
  ·have b:(off P T.v (T.rows k)==0)=true:=by simpa using c
   simp[b,bz];exact⟨by rw[tG (by rw[e];simp[c])],a⟩
  ·have m:(off P T.v (T.rows k)==0)=false:=by simpa using c
   have n:p k=true:=by rw[e];simp[c]
   cases c:dL p T.rows k with
   | none=>
     simp[m,c2,bz];exact⟨by simp[dL,c,n],a⟩
   | some b=>
     have d:=tF c;have f:b<P.m:=by omega
     have g:=G b f;by_cases d:T.rows k<T.rows b
     ·simp[m,c2, l,t,g,f,d];exact⟨by simp[dL,c,n,d],a⟩
     ·simp[m,c2, l,t,g,f,d];exact⟨by simp[dL,c,n,d],a⟩
 ·rintro _ _ a;simp;refine x _ _ _ ?_;simp[kv,e];exact a
end
section
variable{P:bu}{ak:Nat}{ai:Nat->Nat}{lc bo:Value}{T:bd}{c:Nat->Rat}
theorem SK(q:Rat):-1<=ck q/\ck q<=1:=by
 unfold ck;split
 ·omega
 ·split<;>omega
def vz(P:bu)(c:Nat->Rat)(T:bd):Option Nat->Int
 | none=>0
 | some k=>hp P c T k
theorem Oe(j:ep X)(l:bs pm aj)(L:ll P)(N:cl P ak aj ai lc bo T)(ix:dx P T){t:Nat}(ht:t<=100000)(hs:gQ P T t){w:Value}(hw:mm aj w P.n (red P c T)){jj:Nat}(an:jj<=30000000)(O:∀k,k<P.n->aS (red P c T k) jj):
 Call X pm F.oL [.pointer (some ⟨ai 0,0,none⟩),w] aj λr aa=>K pm aj aa/\r=.tuple #[.int .i64 (c2 (enters P c T)),.int .i64 (vz P c T (enters P c T))]:=by
 refine Call.P j.oL rfl λ_ Q=>?_;have ar:=L.n;have ar:=L.m;have x:jj<=fo:=aY an (by decide);obtain⟨R,g,rfl,S⟩:=hw.ex;obtain⟨p,s⟩:∃p:Nat->Bool,p=λk=>decide (red P c T k≠0)&&can P T.v (T.a k) (-ck (red P c T k)):=⟨_,rfl⟩;have U:enters P c T=dL p T.a P.n:=by rw[s];rfl
 simp[-D9,-Ea]
 refine eE (σ:=Unit) P.n (λk _=>[(0,.pointer (some ⟨ai 0,0,none⟩)),(1,.slice R P.n g),(6,.int .i64 (c2 (dL p T.a k))),(9,.slice R P.n g)])
  (λk _ aa=>K pm aj aa) () (by decide) (by omega) (by simp[dL,c2]) (K.refl l) (by simp) ?_ ?_
 ·rintro k _ V e h;have a:=h.h;have r:0<P.n:=by omega
  have W:0<P.n+P.m:=by omega
  have y:=N.k l h;have t:=y.t;rw[cO (b:=ai 1) W,cO (b:=ai 3) r]at t;obtain⟨u,v,_,_,Y,rfl,L,y3,y4,R⟩:=S k e;have Z:=h.some l L;have m:=R.up h;obtain⟨_,z,_,L⟩:=y.c r;have ao:=L k e;have A:=ix.c k e;obtain⟨az,va,vb,vc,B,v2,v3⟩:=(y.v W).load A;have ab:=O k e;have ae:=a.lt t;have af:=a.lt B;have ag:=a.lt z;have y:=a.lt Z
  have aq:∀(n:ad),K pm aj n->p k=true->∀L:bb,aK 0 L=some (.pointer (some ⟨ai 0,0,none⟩))->aK 1 L=some (.slice (some ⟨u,v,none⟩) P.n g)->aK 6 L=some (.int .i64 (c2 (dL p T.a k)))->aK 7 L=some (.int .i64 (k:Int))->
   aK 9 L=some (.slice (some ⟨u,v,none⟩) P.n g)->aK 10 L=some (.int .i64 (P.n:Int))->aK 11 L=some (.int .i64 (k:Int))->∀y:b5,(∀R aa,K pm aj aa->Sub [(11,.int .i64 (k:Int)),(10,.int .i64 (P.n:Int)),(0,.pointer (some ⟨ai 0,0,none⟩)),(1,.slice (some ⟨u,v,none⟩) P.n g),(6,.int .i64 (c2 (dL p T.a (k+1)))),(9,.slice (some ⟨u,v,none⟩) P.n g)] R->y .normal R aa)->
   wp X pm (.code nv) L n [] y:=by
   intro n C D L o E i F G H I y J;have c:=C.h;have g:=N.k l C;have w:=g.t;rw[cO (b:=ai 3) r]at w;obtain⟨_,M,_,d3⟩:=g.c r;have ad:=d3 k e;have ah:=c.lt w;have ak:=c.lt M;simp;refine cy.of c.ah rfl ?_;have d:K pm aj (n.up 19):=C.trans ((K.refl c).up 19)
   cases g:dL p T.a k with
   | none=>
     rw[g]at i;simp[b7,c.none,c.J, i,F,    c2,cj,cd,  bz];exact J _ _ d (by simp[o,E,G,H,I,dL,g,D,c2,])
   | some b=>
     rw[g]at i;have p:=tF g;have r:b<P.n:=by omega
     have u:=d3 b r;by_cases p:T.a k<T.a b
     ·simp[b7,c.none,c.J,o,i,F,w,M,ad,u,e,r,c2,cj,cd,   ah,ak,p];exact J _ _ d (by simp[o,E,G,H,I,dL,g,D,c2, p])
     ·simp[b7,c.none,c.J,o,i,F,w,M,ad,u,e,r,c2,cj,cd,   ah,ak,p];exact J _ _ d (by simp[o,E,G,H,I,i,dL,g,D,c2, p])
  simp[Z,y3,y4,e,-nv];refine cy.of a.ah rfl ?_;simp[b7, a.J,-nv];have d:K pm V (V.up 23):=(K.refl a).up 23;refine gS d.h (az:=[Y]) (by simp[a.none]) (by simp) (by simp) rfl (λal f=>jR f (jr j.tozg f (m.up d).of (ab.bw x))) ?_;rintro _ _-⟨rfl,rfl⟩;by_cases q:red P c T k=0
  ·have b:(ck (red P c T k)==0)=true:=by simp[hB,q]
   simp[b,bz,a.none,-nv];refine fL.not (by simp[a.none]) (by simp) ?_;simp[bz,a.none,-nv];refine fL.not (by simp[a.none]) (by simp) ?_;simp[bz,a.none,cj,cd,  dM];exact⟨by rw[tG (by rw[s];simp[q])],h.trans d⟩
  ·have g:(ck (red P c T k)==0)=false:=by simp[hB,q]
   have p:ck (red P c T k)=1∨ck (red P c T k)=-1:=(jH q).imp (·.2) (·.2);have E:wr .i64 (-ck (red P c T k))=-ck (red P c T k):=b8 (by omega) (by omega);simp[g,a.none,t,B,z,ao,e,A,v2,-nv];refine eM d.h (az:=[Y]) (by simp[a.none]) (by simp) (by simp) rfl (λal f=>jR f (jr j.tozg f (m.up d).of (ab.bw x))) ?_;rintro _ _-⟨rfl,rfl⟩;simp[a.none,E,-nv];refine gS d.h (az:=[.agg #[va,vb,vc],.int .i64 (-ck (red P c T k))]) (by simp[a.none]) (by simp) (by simp[bB]) rfl (λal f=>GR j f (v3.k d) (hs.v _ A) (aY ht (by decide))) ?_;rintro _ n b rfl;have i:=b.res a;have o:=h.trans (d.trans b);have w:=λb=>lz (m.up d) (d.some a t) b;have C:=λb=>lz (m.up d) (d.some a B) b;have D:=λb=>lz (m.up d) (d.some a z) b
   cases a:can P T.v (T.a k) (-ck (red P c T k)) with
   | false=>
     simp[i,cj,cd, ae,af,ag, dM,w,C,D];exact⟨by rw[tG (by rw[s];simp[a])],o⟩
   | true=>
     simp[i,cj,cd, ae,af,ag, dM,w,C,D,-nv];exact aq _ o (by rw[s];simp[q,a]) _ (by simp) (by simp) (by simp) (by simp) (by simp) (by simp) (by simp) _ λ_ aa a b=>by
      simp;exact⟨by simpa using b,a⟩
 ·rintro _ f a;simp[-D'];rw[<-U]
  cases d:enters P c T with
  | none=>
    simp[c2];refine Q _ _ _ ?_;simp[d,c2,vz];exact a
  | some b=>
    have e:b<P.n:=tF (U▸d);obtain⟨_,_,_,_,h,rfl,g,i,k,m⟩:=S b e;have n:=a.some l g;simp[c2,n,i,k,e,-Eb];refine aq.of (az:=[h]) (by simp) (by simp) (jr j.tozg a.h (m.up a).of ((O b e).bw x)) ?_;rintro _ f ⟨rfl,rfl⟩;have e:wr .i64 (-ck (red P c T b))=-ck (red P c T b):=by
     have:=SK (red P c T b);exact b8 (by omega) (by omega)
    simp[e];refine Q _ _ _ ?_;simp[d,c2,vz,hp];exact a
end
section
variable{P:bu}{ak:Nat}{ai:Nat->Nat}{lc bo:Value}{T:bd}
theorem RW(m:Perm)(a:Array Value)(k:IntKind)(i:Int):ed m [.agg a,.int k i]=[]:=rfl
theorem IQ{t:Nat}(d:gQ P T t)(e:dx P T){af:Nat}(f:af<P.n){aG:Int}:∀{i:Nat},i<=P.m->∀q,(dn P T af aG i).Y=some q->aS q (4*t+2):=by
 have g:∀x w r,x<P.n+P.m->room P T.v x w=some r->aS r (2*t+1):=λx w r j h=>by
  have a:=d.v x j;unfold room at h;split at h
  ·rename_i u b;cases h;split at b
   ·exact s3 (a.up u b) a.v
   ·cases b
  ·split at h
   ·rename_i l c;cases h;split at c
    ·exact s3 a.v (a.ah l c)
    ·cases c
   ·cases h
 intro i
 induction i with
 | zero=>
   intro _ q h;exact en (g _ _ _ (e.c af f) h) (by omega)
 | succ i ih=>
   intro _ q h;rw[dn]at h;have ih:=ih (by omega);split at h
   ·exact ih q h
   ·rename_i k;split at h
    ·exact ih q h
    ·rename_i r m;have a:aS (r/cX (T.M i af)) (4*t+2):=by
      have n:=g _ _ _ (e.r i (by omega)) m;have o:aS (cX (T.M i af)) (2*t+1):=by
       have:=en (d.M i af (by omega) f) (show t<=2*t+1 by omega);unfold cX;split
       ·exact oF this
       ·exact this
      have:=yG n o (by have:=jt k;grind);exact en this (by omega)
     unfold fD.add at h;split at h
     ·cases h;exact a
     ·split at h
      ·cases h;exact a
      ·exact ih q h
theorem Sn{t:Nat}{v:Nat->Rat}{x:Nat}(a:wm P v x t){w:Int}{r:Rat}(h:room P v x w=some r):aS r (2*t+1):=by
 unfold room at h;split at h
 ·rename_i u b;cases h;split at b
  ·exact s3 (a.up u b) a.v
  ·cases b
 ·split at h
  ·rename_i l c;cases h;split at c
   ·exact s3 a.v (a.ah l c)
   ·cases c
  ·cases h
theorem Qh(j:ep X)(c:bs pm aj)(po:ll P)(v:cl P ak aj ai lc bo T)(ix:dx P T){t:Nat}(ht:t<=100000)(B:gQ P T t){af:Nat}(k:af<P.n){aG:Int}(aJ:aG=1∨aG=-1):
 Call X pm F.oO [.pointer (some ⟨ai 0,0,none⟩),.int .i64 (af:Int),.int .i64 aG] aj λr aa=>K pm aj aa/\∃f,r=.tuple #[f,.int .i64 (c2 (dn P T af aG P.m).ind)]/\eJ aa f (dn P T af aG P.m).Y:=by
 refine Call.P j.oO rfl λ_ hQ=>?_;have ax:=po.n;have ax:=po.m;have M:t<=fo:=aY ht (by decide);have av:4*t+2<=fo:=aY (show 4*t+2<=500000 by omega) (by decide);have aw:2*t+1<=fo:=aY (show 2*t+1<=500000 by omega) (by decide);have ax:0<P.n:=by omega
 have N:0<P.n+P.m:=by omega
 have ag:=v.t;rw[cO (b:=ai 1) N,cO (b:=ai 3) ax]at ag;obtain⟨_,g,C,c3⟩:=v.c ax;have aL:=c3 af k;have ah:=ix.c af k;obtain⟨az,va,vb,vc,v1,v2,v3⟩:=(v.v N).load ah;have aM:=c.lt ag;have aN:=c.lt v1;have aO:=c.lt g;simp[-yX];refine cy.of c.ah rfl ?_;have kU:K pm aj (aj.up 25):=(K.refl c).up 25;simp[b7,c.none,c.J,ag,g,aL,k,ah,v1,v2,-yX];refine eM kU.h (az:=[.agg #[va,vb,vc],.int .i64 aG]) (by simp[c.none]) (by simp) (by simp[bB]) rfl (λay w=>Ku j w (v3.k kU) (B.v _ ah) (aY ht (by decide))) ?_;rintro f1 H1 O ax;have x1:=O.res c;have ag:=kU.trans O;obtain⟨aL,aP,aQ⟩:=k9 (ai 4) P.m;have ah:=ag.some c v.t;rw[aP]at ah;simp[x1,cj,cd,aM,aN,aO,jT,dM,RW,ah,-Ej]
 refine eE (σ:=Value) P.m (λi f=>[(0,.pointer (some ⟨ai 0,0,none⟩)),(1,.int .i64 (af:Int)),(2,.int .i64 aG),(8,f),(9,.int .i64 (c2 (dn P T af aG i).ind)),(10,.int .i64 ((dn P T af aG i).mg:Int)),(41,.slice aL P.m P.m)])
  (λi f aa=>K pm aj aa/\eJ aa f (dn P T af aG i).Y) f1 (by decide) (by omega) (by simp[dn,c2]) ⟨ag,by simpa [dn]using ax⟩ (by simp) ?_ ?_
 ·rintro i f H2 d ⟨Q,hf⟩;obtain rfl:=aQ (by omega);have a:=Q.h;have D:0<P.m:=by omega
  have E:=v.k c Q;obtain⟨_,m1,_,m3⟩:=E.m D;have ag:=m3 i d;obtain⟨_,p1,_,p3⟩:=E.row i d;obtain⟨F,ah,x⟩:=p3 af k;have G:=B.M i af d k;simp[m1,ag,d,p1,ah,k,-Eo,-El];refine aq.of (az:=[F]) (by simp) (by simp) (jr j.tozg a x.of (G.bw M)) ?_;rintro _ H2 ⟨rfl,rfl⟩;by_cases l:T.M i af=0
  ·simp[hB,l];have e:dn P T af aG (i+1)=dn P T af aG i:=by rw[dn,aT l]
   rw[e];exact⟨_,⟨rfl,rfl,rfl⟩,Q,hf⟩
  ·have R:=E.t;rw[cO (b:=ai 1) N,cO (b:=ai 2) D]at R;obtain⟨_,r1,_,r3⟩:=E.r D;have aR:=r3 i d;have S:=ix.r i d;obtain⟨_,aU,wb,wc,w1,w2,w3⟩:=(E.v N).load S;have q0:=a.lt R;have q1:=a.lt w1;have q2:=a.lt r1;have E:=yy aJ l;have aV:wr .i64 (aG*ck (T.M i af))=aG*ck (T.M i af):=b8 (by omega) (by omega);simp[hB,l,-vG];refine cy.of a.ah rfl ?_;have e:K pm H2 (H2.up 19):=(K.refl a).up 19;simp[b7,a.none,a.J,R,r1,aR,d,S,w1,w2,-vG];refine eM e.h (az:=[F]) (by simp[a.none]) (by simp) (by simp) rfl (λay w=>jR w (jr j.tozg w (x.up e).of (G.bw M))) ?_;rintro _ _-⟨rfl,rfl⟩;simp[a.none,aV,-vG];refine gS e.h (az:=[.agg #[aU,wb,wc],.int .i64 (aG*ck (T.M i af))]) (by simp[a.none]) (by simp) (by simp[bB]) rfl (λay w=>Ku j w (w3.k e) (B.v _ S) (aY ht (by decide))) ?_;rintro aW H3 w H;have x2:=w.res a;have E:=e.trans w;have ak:=Q.trans E;have g3:=ak.h;have aA:=λw=>lz (x.up e) (e.some a R) w;have aB:=λw=>lz (x.up e) (e.some a w1) w;have aD:=λw=>lz (x.up e) (e.some a r1) w;have al:=x.up E;have an:=hf.up E;obtain⟨fp,rfl⟩:=an.ptr
   cases I:room P T.v (T.rows i) (aG*ck (T.M i af)) with
   | none=>
     rw[I]at H;obtain rfl:aW=.pointer none:=H;simp[x2,cj,cd,q0,q1,q2, dM,aA,aB,aD,-Ek];have e:dn P T af aG (i+1)=dn P T af aG i:=by rw[dn,aC l,I]
     rw[e];exact⟨_,⟨rfl,rfl,rfl⟩,ak,an⟩
   | some r=>
     rw[I]at H;obtain⟨rb,rfl,_⟩:=id H;have aE:=Sn (B.v _ S) I;have aF:aS (cX (T.M i af)) (2*t+1):=by
      have:=en G (show t<=2*t+1 by omega);unfold cX;split
      ·exact oF this
      ·exact this
     have a:cX (T.M i af)≠0:=by have:=jt l;grind
     have aH:=en (yG aE aF a) (show 2*(2*t+1)<=4*t+2 by omega);have y:dn P T af aG (i+1)=(dn P T af aG i).add (r/cX (T.M i af)) i (T.rows i):=by rw[dn,aC l,I]
     have aI:∀(z:ad) (A:Value),K pm H3 z->b9 z A (cX (T.M i af))->∀L:bb,aK 0 L=some (.pointer (some ⟨ai 0,0,none⟩))->aK 1 L=some (.int .i64 (af:Int))->aK 2 L=some (.int .i64 aG)->aK 8 L=some (.pointer fp)->aK 9 L=some (.int .i64 (c2 (dn P T af aG i).ind))->aK 10 L=some (.int .i64 ((dn P T af aG i).mg:Int))->aK 11 L=some (.int .i64 (i:Int))->aK 13 L=some A->
      aK 14 L=some (.pointer (some ⟨rb,0,none⟩))->aK 41 L=some (.slice (some ⟨ai 4,0,none⟩) P.m P.m)->aK 42 L=some (.int .i64 (P.m:Int))->aK 43 L=some (.int .i64 (i:Int))->∀U:b5,
      (∀e aa l,K pm aj aa->eJ aa l (dn P T af aG (i+1)).Y->Sub [(43,.int .i64 (i:Int)),(42,.int .i64 (P.m:Int)),(0,.pointer (some ⟨ai 0,0,none⟩)),(1,.int .i64 (af:Int)),(2,.int .i64 aG),(8,l),(9,.int .i64 (c2 (dn P T af aG (i+1)).ind)),(10,.int .i64 ((dn P T af aG (i+1)).mg:Int)),(41,.slice (some ⟨ai 4,0,none⟩) P.m P.m)] e->U .normal e aa)->wp X pm (.code qZ) L z [] U:=by
      intro z A k4 e L f m n V l9 W o l ao p q s U ar;simp[ao,l,-Er,-En];refine aq.of (az:=[.pointer (some ⟨rb,0,none⟩),A]) (by simp) (by simp) (vT j.tozg k4.h (H.up k4).of e.of (aE.bw aw) (aF.bw aw) a) ?_;rintro _ Y ⟨k5,_,rfl,Z⟩;obtain⟨xb,rfl,_⟩:=id Z;have a:=k4.trans k5;have ab:=ak.trans a;have t:=k5.h;have e:=v.k c ab;have J:=e.t;rw[cO (b:=ai 2) D]at J;obtain⟨_,s1,_,c⟩:=e.r D;have au:=c i d;have y0:=t.lt J;have y2:=t.lt s1;have aC:K pm Y (Y.up 12):=(K.refl t).up 12;have u:=an.up a
      have ad:∀L:bb,aK 0 L=some (.pointer (some ⟨ai 0,0,none⟩))->aK 1 L=some (.int .i64 (af:Int))->aK 2 L=some (.int .i64 aG)->aK 11 L=some (.int .i64 (i:Int))->aK 107 L=some (.bool true)->
       aK 14 L=some (.pointer (some ⟨xb,0,none⟩))->aK 41 L=some (.slice (some ⟨ai 4,0,none⟩) P.m P.m)->aK 42 L=some (.int .i64 (P.m:Int))->aK 43 L=some (.int .i64 (i:Int))->dn P T af aG (i+1)=⟨some (r/cX (T.M i af)),some i,T.rows i⟩->wp X pm (.code s') L Y [] U:=by
       intro L f m n o a ao p q s b;simp[a];refine cy.of t.ah rfl ?_;simp[b7,t.none,t.J,f,o,ao,J,s1,au,d,cj,cd,y0,y2,];exact ar _ _ (.pointer (some ⟨xb,0,none⟩)) (ab.trans aC) (by rw[b];exact Z.up aC) (by simp[f,m,n,p,q,s,b,c2])
      have a:r/cX (T.M i af)=r/cX (T.M i af):=rfl;generalize r/cX (T.M i af)=ae at Z aH y ad
      cases h:(dn P T af aG i).Y with
      | none=>
        rw[h]at u;cases u;simp[V,bz,-s'];exact ad _ (by simp[f]) (by simp[m]) (by simp[n]) (by simp[o]) (by simp) (by simp) (by simp[p]) (by simp[q]) (by simp[s]) (by rw[y,fD.add,h])
      | some b=>
        rw[h]at u;obtain⟨r,K,_⟩:=id u;cases K;have a:=IQ B ix k (CD d) b h;simp[V,-Ep,-Em];refine aq.of (az:=[.pointer (some ⟨xb,0,none⟩),.pointer (some ⟨r,0,none⟩)]) (by simp) (by simp) (q8 j.tozg t Z.of u.of (aH.bw av) (a.bw av)) ?_;rintro _ Y ⟨rfl,rfl⟩;by_cases g:ae<b
        ·simp[qa,g,bz,-s'];exact ad _ (by simp[f]) (by simp[m]) (by simp[n]) (by simp[o]) (by simp) (by simp) (by simp[p]) (by simp[q]) (by simp[s]) (by rw[y,fD.add,h];simp[g])
        ·by_cases C:ae=b
         ·have c:(lx ae b==0)=true:=by simp[cmp_eq,C]
          by_cases a:T.rows i<(dn P T af aG i).mg
          ·simp[qa,g,c, f,W,o,J,s1,au,d,a,-s'];exact ad _ (by simp[f]) (by simp[m]) (by simp[n]) (by simp[o]) (by simp) (by simp) (by simp[p]) (by simp[q]) (by simp[s]) (by rw[y,fD.add,h];simp[C,a])
          ·simp[qa,g,c, f,W,o,J,s1,au,d,a];have c:dn P T af aG (i+1)=dn P T af aG i:=by rw[y,fD.add,h];simp[g,a]
           exact ar _ _ (.pointer (some ⟨r,0,none⟩)) ab (by rw[c,h];exact u) (by simp[f,m,n,V,l9,W,p,q,s,c])
         ·have a:(lx ae b==0)=false:=by simp[cmp_eq,C]
          simp[qa,g,a,bz];have a:dn P T af aG (i+1)=dn P T af aG i:=by rw[y,fD.add,h];simp[g,C]
          exact ar _ _ (.pointer (some ⟨r,0,none⟩)) ab (by rw[a,h];exact u) (by simp[f,m,n,V,l9,W,p,q,s,a])
     simp[x2,cj,cd,q0,q1,q2, dM,aA,aB,aD,-qZ];refine aq.of (az:=[F]) (by simp) (by simp) (jr j.tozg g3 al.of (G.bw M)) ?_;rintro _ H3 ⟨rfl,rfl⟩;by_cases a:T.M i af<0
     ·simp[K',a,-qZ];refine aq.of (az:=[F]) (by simp) (by simp) (wa j.tozg g3 al.of (G.bw M)) ?_;rintro A z ⟨b,c⟩;simp[-qZ];refine aI z A b (by rw[cX,aT a];exact c) _ (by simp) (by simp) (by simp) (by simp) (by simp) (by simp) (by simp) (by simp) (by simp) (by simp) (by simp) (by simp) _ λ_ aa b c d e=>?_;simp;exact⟨b,by simpa using e,c,d⟩
     ·simp[K',a,-qZ];refine aI H3 F (K.refl g3) (by rw[cX,aC a];exact al) _ (by simp) (by simp) (by simp) (by simp) (by simp) (by simp) (by simp) (by simp) (by simp) (by simp) (by simp) (by simp) _ λ_ aa a b c d=>?_;simp;exact⟨a,by simpa using d,b,c⟩
 ·rintro f H1 ⟨O,a⟩;simp;refine hQ _ _ _ ?_;simp;exact⟨O,a⟩
end
structure kC(ab:aI)(P:bu)(c:Nat->Rat):Prop where
 n:P.n=ab.a.length
 m:P.m=ab.rows.length
 cost:∀j,j<P.n->c j=rd (ab.af j).cost
theorem kC.ok{ab:aI}{P:bu}{c:Nat->Rat}(h:kC ab P c)(a:ab.ok):ll P:=⟨by rw[h.n];exact a.c,by rw[h.m];exact a.r⟩
section
variable{P:bu}{ak:Nat}{ai:Nat->Nat}{lc bo:Value}{T:bd}{c:Nat->Rat}{ab:aI}
theorem OG{row:List Value}{k:Nat}{a b c d e:Value}(h:bx row k 5=some [a,b,c,d,e]):row[k+3]? = some d:=by
 unfold bx at h;by_cases a:k+5<=row.length
 ·rw[cg,ix a,cond_true]at h;have h:=jF h;have:(List.take 5 (List.drop k row))[3]? = some d:=by rw[h];rfl
  rw[kZ (by omega),ki]at this;exact this
 ·rw[cg,l0 a,cond_false]at h;cases h
theorem wL(b:ab.ok)(a:kC ab P c){x:Nat}:aS (e2 P c x) 10000:=by
 unfold e2;split
 ·rename_i h;rw[a.cost x h];have c:x<ab.a.length:=by rw[<-a.n];exact h
  exact jg (k:=10000) (b.cs (ab.af x) (eB (aI.jv c))).2.2 (by decide)
 ·exact pR (by decide)
theorem G5(b:ep X)(f:bs pm aj)(k:ab.ok)(l:ab.I=true)(d:kC ab P c)(j:cl P ak aj ai lc bo T)(m:gC aj lc ab.a){x:Nat}(_:x<100000):
 Call X pm F.nt [.pointer (some ⟨ai 0,0,none⟩),.int .i64 (x:Int)] aj λr aa=>K pm aj aa/\b9 aa r (e2 P c x):=by
 refine Call.P b.nt rfl λ_ g=>?_;obtain⟨_,_,rfl,o⟩:=m.at;have h:=j.t;by_cases a:x<P.n
 ·have i:x<ab.a.length:=by rw[<-d.n];exact a
  obtain⟨_,_,_,_,_,rfl,n,p,q,c,e,rfl⟩:=o x i;have j:=eB e;have m:=aI.zW e;have o:=OG q;have e:=G1 (xy l j);have l:=(k.cs c j).2.2;have j:c.cost≠[]:=by rintro k;rw[k]at e;simp[isNum,HP]at e
  simp[h,i,n,p,o];refine aq.of (az:=[aA c.cost]) (by simp) (by simp) (td b f (by omega) λ_=>e) ?_;rintro r _ ⟨e,c⟩;rw[fc,aC j]at c;simp;refine g _ _ _ ?_;simp;exact⟨e,by rw[e2,aT a,d.cost x a,m];exact c⟩
 ·have c:¬x<ab.a.length:=by rw[<-d.n];exact a
  simp[h,c];refine aq.of (az:=[.int .i64 0]) (by simp) (by simp) (o0 b.tozg f (n:=0) (by omega) (by omega)) ?_;rintro r _ ⟨b,c⟩;simp;refine g _ _ _ ?_;simp;exact⟨b,by rw[e2,aC a];simpa using c⟩
def hT(P:bu)(c:Nat->Rat)(T:bd)(i k:Nat):Rat:=e2 P c (T.a k)+a1 (λi=>e2 P c (T.rows i)*T.M i k) i
theorem yl(a:ab.ok)(b:kC ab P c){t:Nat}(d:gQ P T t){k:Nat}(e:k<P.n):∀{i:Nat},i<=P.m->aS (hT P c T i k) (10001+i*(10001+t))
 | 0,_=>by
   rw[hT,a1,na];exact en (wL a b) (by omega)
 | i+1,_=>by
   have ih:=yl a b d e (i:=i) (by omega);have:hT P c T (i+1) k=hT P c T i k+e2 P c (T.rows i)*T.M i k:=by
    rw[hT,hT,a1];grind
   rw[this];refine en (s0 ih (kt (wL a b) (d.M i k (by omega) e))) ?_;rw[hS];omega
theorem Sh(l:ep X)(I:bs pm aj)(J:K pm aj H)(N:ll P){a cR:Nat}(x:aj.next<=a)(O:cR≠a){d M:Nat->Rat}{q:Rat}{t jj:Nat}(z:aS q 10000)(R:t<=100000)(S:∀k,k<P.n->aS (M k) t)(T:jj<=10000000)(U:∀k,k<P.n->aS (d k) jj)
 (V:dI H cR P.n P.n M) (n:0<P.n->dI H a P.n P.n d) {w:Value} (A:b9 H w q) {L:bb} {i:Nat} {yQ yR:Value} (W:aK 0 L=some yQ) (Y:aK 3 L=some (aP a P.n)) (Z:aK 7 L=some (.slice (some ⟨cR,0,none⟩) P.n P.n)) (l8:aK 8 L=some w)
 (ab:aK 30 L=some yR) (ae:aK 31 L=some (.int .i64 (P.m:Int))) (af:aK 32 L=some (.int .i64 (i:Int))) {Q:b5}
 (ag:∀aN aa,K pm aj aa->h0 a H aa->(0<P.n->dI aa a P.n P.n λk=>d k+q*M k)->Sub [(32,.int .i64 (i:Int)),(31,.int .i64 (P.m:Int)),(0,yQ),(3,aP a P.n),(30,yR)] aN->Q .normal aN aa):
 wp X pm (.code vL) L H [] Q:=by
 have ak:=N.n;have B:t<=fo:=aY R (by decide);have ah:jj<=fo:=aY T (by decide);obtain⟨o,rfl,_⟩:=id A;simp[Z,-E9]
 refine eE (σ:=Unit) P.n (λ_ _=>[(32,.int .i64 (i:Int)),(31,.int .i64 (P.m:Int)),(0,yQ),(3,aP a P.n),(30,yR),(49,.slice (some ⟨cR,0,none⟩) P.n P.n),(8,.pointer (some ⟨o,0,none⟩))])
  (λk _ aa=>K pm aj aa/\h0 a H aa/\(0<P.n->dI aa a P.n P.n λy=>if y<k then d y+q*M y else d y)) () (by decide) (by omega) (by simp[W,Y,l8,ab,ae,af]) ⟨J,h0.refl,λh=>(n h).congr λy _=>by simp⟩ (by simp) ?_ ?_
 ·rintro k _ e c ⟨p,f,h⟩;have b:=p.h;have h:=h (by omega);obtain⟨_,H,_,J⟩:=V;obtain⟨r,L,N⟩:=J k c;have Q:=f cR _ O H;have s:=S k c;obtain⟨X,i,d2,C⟩:=id h;obtain⟨qk,ai,D⟩:=C k c;have H:(λy=>if y<k then d y+q*M y else d y) k=d k:=by simp
  rw[H]at D;have u:b9 e r (M k):=f.cB (n (by omega)).choose_spec.1 N;have E:b9 e (.pointer (some ⟨o,0,none⟩)) q:=f.cB (n (by omega)).choose_spec.1 A;have nx:∀(aa:ad) (n:Value),dI aa a P.n P.n (λy=>if y=k then d k+q*M k else if y<k then d y+q*M y else d y)->dI aa a P.n P.n λy=>if y<k+1 then d y+q*M y else d y:=λaa n n=>n.congr λy _=>by
   by_cases d:y=k
   ·subst d;simp
   ·by_cases g:y<k
    ·simp[d,g,show y<k+1 by omega]
    ·simp[d,g,show ¬y<k+1 by omega]
  simp[Q,L,c,-Fg,-Fb];refine aq.of (az:=[r]) (by simp) (by simp) (jr l.tozg b u.of (s.bw B)) ?_;rintro _ e ⟨rfl,rfl⟩;by_cases v:M k=0
  ·simp[hB,v];refine⟨p,f,λ_=>h.congr λy _=>?_⟩;by_cases d:y=k
   ·subst d;simp[v,na]
   ·by_cases d:y<k
    ·simp[d,show y<k+1 by omega]
    ·simp[d,show ¬y<k+1 by omega]
  ·have M:=b.lt i;rw[cO (show 0<P.n by omega)];simp[hB,v];refine cy.of b.ah rfl ?_;have d:K pm e (e.up 12):=(K.refl b).up 12;simp[b7,b.none,b.J,i,ai,c];have dj:=λm=>nO (E.up d) (u.up d) (d.some b i) m;refine eM d.h (az:=[.pointer (some ⟨o,0,none⟩),r]) (by simp[b.none]) (by simp) (by simp) rfl (λaa q=>pY l.tozg q (E.up d).of (u.up d).of (z.bw (by decide)) (s.bw B)) ?_;rintro e _ g f6;have h:=g.res b;simp;refine gS g.h (az:=[qk,e]) (by simp[h]) (by simp) (by simp) rfl (λaa q=>q5 l.tozg q ((D.up d).up g).of f6.of ((U k c).bw ah) ((kt z s).bw (aY (show 10000+t<=110000 by omega) (by decide)))) ?_;rintro _ _ w F;have x2:=(K.trans g w).res b;have j:=d.trans (g.trans w);have G:=j.some b i;obtain⟨_,rfl,_⟩:=id F;have d:∀o,Perm.may ⟨pm.ah,pm.ok,o⟩ a=true:=λo=>eG (aY I.ah x);simp[x2,G,c,d,show k<X.length by omega,cj,cd,M, dM,dj];obtain⟨e,g⟩:=dI.put (m:=aj.next) w.h x G d2 (λy a=>(C y a).imp λ_ d=>⟨d.1,d.2.up j⟩) c F (dd:=P.n) (λy a=>.inr a);exact⟨aF.trans (p.trans j) e,f.trans (h0.trans (j.Od b) h0.put),λ_=>nx _ (.pointer none) g⟩
 ·rintro _ _ ⟨a,b,c⟩;simp;exact ag _ _ a b (λh=>(c h).congr λ_ a=>by simp[a]) (by simp)
end
end Go.Dam.C
