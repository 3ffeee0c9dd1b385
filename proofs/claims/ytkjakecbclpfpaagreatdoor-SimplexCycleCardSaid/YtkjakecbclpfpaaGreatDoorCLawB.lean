/- What the functions of the program compute, for every input. -/
import Derived.Test.YtkjakecbclpfpaaGreatDoorCLawA
import Derived.Lib.ItoaNum
import Derived.Lib.ParseIntB
import Derived.Lib.SlTrimSet
import Derived.Lib.Repeat
import Derived.Test.YtkjakecbclpfpaaGreatDoorCDamB
import Derived.Test.YtkjakecbclpfpaaGreatDoorCSnd
namespace Go.Dam.C
open Go Go.Dam
variable{X:aA}{pm:Perm}{H ab:ae}
section
variable[bL]
def j2(neg:Bool)(n:Nat):Int:=if neg then -(n:Int) else(n:Int)
end
theorem wL(neg:Bool)(n d:Nat):hj neg n d=mkRat (j2 neg n) d:=rfl
theorem nU(q:Rat):q.num=j2 (decide (q<0)) q.num.natAbs:=by
 unfold j2;by_cases h:q<0
 ·have:=(zn q).1 h;simp[h];omega
 ·have:¬q.num<0:=λa=>h ((zn q).2 a);simp[h];omega
theorem CE(q:Rat):hj (decide (q<0)) q.num.natAbs q.den=q:=by
 rw[wL,<-nU];simp_all
section
variable[bL]
def aV(q:Rat)(k:Nat):Prop:=q.num.natAbs<4294967296^k/\q.den<4294967296^k
end
theorem lY{n m k:Nat}(a:n<4294967296^k)(b:m<4294967296^k):n*m<4294967296^(2*k):=by
 rw[show 2*k=k+k by omega,hG];exact xo a b
theorem lv{n j k:Nat}(h:n<4294967296^j)(a:j<=k):n<4294967296^k:=fK h (hX (by decide) a)
theorem C7{n m k:Nat}(a:n<4294967296^k)(a:m<4294967296^k):n+m<4294967296^(k+1):=by
 grind
section
variable[bL]
theorem oi(e:dQ X)(a:ck pm H){v:Value}{q:Rat}(h:gC H v q):
 Call X pm F.jE [v] H λr ab=>bx pm H ab/\∃c d,r=.tuple #[.bool (decide (q<0)),c,d]/\cr ab c q.num.natAbs/\cr ab d q.den:=by
 refine Call.has e.jE rfl ?_
 rcases h.ex with⟨rfl,rfl⟩ | ⟨b,x,c,d,rfl,b7,cH,cD,dS⟩
 ·simp;refine al.of (Rb e a) ?_;rintro g _ ⟨b,h⟩;simp;refine al.of (wV e b.ok) ?_;rintro e _ ⟨f,i⟩;simp;exact⟨b.trans f,g,e,⟨rfl,rfl⟩,h.u b.ok f,i⟩
 ·have g:∃f,d=.pointer (some f):=by
   rcases dS.ptr with⟨_,h⟩ | h
   ·exact absurd h q.den_nz
   ·exact h
  obtain⟨f,rfl⟩:=g;simp[b7,cH];refine cx.yI a rfl rfl rfl ?_;simp[b7,cH];have b:=(bx.refl a).up 15;exact⟨b,c,_,⟨rfl,rfl⟩,cD.u a b,dS.u a b⟩
theorem xM(a:dQ X)(b:ck pm H){neg:Bool}{v w:Value}{n d k:Nat}(c:cr H v n)(e:cr H w d)(f:n<4294967296^k)(g:d<4294967296^k) (h:d≠0)(av:k<268435456:=by omega):
 Call X pm F.l2 [.bool neg,v,w] H λr ab=>bx pm H ab/\ht ab r (hj neg n d):=by
 refine Call.has a.l2 rfl ?_;simp;refine al.of (MP a b (neg:=neg) c e f g av) ?_;simp_all
theorem MY(a:dQ X)(b:ck pm H){v:Value}{q:Rat}{k:Nat}(h:gC H v q)(c:aV q k)(av:k<268435456):
 Call X pm F.fb [v] H λr ab=>bx pm H ab/\r=.int .i64 (if q<0 then -1 else if q=0 then 0 else 1):=by
 refine Call.has a.fb rfl ?_;simp;refine al.of (oi a b h) ?_;rintro _ _ ⟨_,_,_,rfl,d,_⟩;by_cases e:q<0
 ·simp_all
 ·simp[e];refine al.of (tP a d c.1 av) ?_;simp_all
end
theorem QB(q:Rat):(-q).num.natAbs=q.num.natAbs/\(-q).den=q.den/\decide (-q<0)=(!decide (q<0)&&!decide (q.num.natAbs=0)):=by
 refine⟨by simp_all,Rat.neg_den q,?_⟩;rw[Bool.eq_iff_iff];simp only[cP,bK,ir,decide_eq_false_iff_not];rw[zn,zn,Rat.neg_num];omega
section
variable[bL]
theorem MO(j:dQ X)(b:ck pm H){v:Value}{q:Rat}{k:Nat}(h:gC H v q)(m:aV q k)(av:k<268435456):
 Call X pm F.kU [v] H λr ab=>bx pm H ab/\ht ab r (-q):=by
 refine Call.has j.kU rfl ?_;simp;refine al.of (oi j b h) ?_;rintro _ a ⟨c,d,e,rfl,f,k⟩;obtain⟨n,o,l⟩:=QB q;have g:bx pm H (a.new (.cells [.bool (decide (-q<0)),d,e] (.t T.IY)))/\ht (a.new (.cells [.bool (decide (-q<0)),d,e] (.t T.IY))) (ptr a.next) (-q):=by
  have h:bx pm a (a.new (.cells [.bool (decide (-q<0)),d,e] (.t T.IY))):=(bx.refl c.ok).new _;exact⟨c.trans h,⟨.inr ⟨a.next,_,d,e,rfl,cc,⟨rfl,rfl⟩,by rw[n];exact f.u c.ok h,by rw[o];exact k.u c.ok h⟩⟩,_,_,_,rfl,cc⟩
 by_cases i:q<0
 ·simp[i];refine al.not ?_;rw[l]at g
  rcases f.ptr with⟨rfl,_⟩ | ⟨a2,rfl⟩<;>rcases k.ptr with⟨rfl,_⟩ | ⟨a3,rfl⟩<;>simp[b.make,b.pick]<;>simpa [i]using g
 ·simp[i];refine al.of (tP j f m.1 av) ?_;rintro _ a ⟨rfl,rfl⟩;rw[l]at g
  rcases f.ptr with⟨rfl,_⟩ | ⟨a2,rfl⟩<;>rcases k.ptr with⟨rfl,_⟩ | ⟨a3,rfl⟩<;>simp[b.make,b.pick]<;>simpa [i]using g
theorem UD(a:dQ X)(d:ck pm H){v w:Value}{p q:Rat}{k:Nat}(b7:gC H v p)(cH:gC H w q)(e:aV p k)(f:aV q k)(av:k<67108864):
 Call X pm F.im [v,w] H λr ab=>bx pm H ab/\ht ab r (p*q):=by
 refine Call.has a.im rfl ?_;simp;refine al.of (oi a d b7) ?_;rintro _ _ ⟨c,_,_,rfl,g,h⟩;simp;refine al.of (oi a c.ok (cH.u d c)) ?_;rintro _ _ ⟨b,_,_,rfl,d,i⟩;simp;refine al.of (s7 a b.ok (g.u c.ok b) d e.1 f.1) ?_;rintro _ _ ⟨d,j⟩;simp;refine al.of (s7 a d.ok ((h.u c.ok b).u b.ok d) (i.u b.ok d) e.2 f.2) ?_;rintro _ _ ⟨g,h⟩;simp;refine al.of (xM a g.ok (neg:=!(decide (p<0)==decide (q<0))) (j.u d.ok g) h (lY e.1 f.1) (lY e.2 f.2) (ti p.den_nz q.den_nz)) ?_;rintro _ _ ⟨a,_⟩;simp;refine⟨c.trans (b.trans (d.trans (g.trans a))),?_⟩;have:p*q=hj (!(decide (p<0)==decide (q<0))) (p.num.natAbs*q.num.natAbs) (p.den*q.den):=by
  rw[Rat.mul_def',wL];congr 1;rw[nU p,nU q];unfold j2;cases decide (p<0)<;>cases decide (q<0)<;>simp[Int.mul_neg,Int.neg_mul]
 grind
end
theorem Pz{q:Rat}(b:q≠0)(p:Rat):p/q=hj (!(decide (p<0)==decide (q<0))) (p.num.natAbs*q.den) (p.den*q.num.natAbs):=by
 have c:q.num.natAbs≠0:=by
  intro _;exact b (Rat.num_eq_zero.1 (by omega))
 have b:hj (!(decide (p<0)==decide (q<0))) (p.num.natAbs*q.den) (p.den*q.num.natAbs)*q=p:=by
  have d:q=mkRat (j2 (decide (q<0)) q.num.natAbs) q.den:=by rw[<-nU];exact(Rat.mkRat_self q).symm
  have e:p=mkRat (j2 (decide (p<0)) p.num.natAbs) p.den:=by rw[<-nU];exact(Rat.mkRat_self p).symm
  generalize g:p.num.natAbs=P at*
  generalize h:q.num.natAbs=Q at*
  have a:=p.den_nz;have f:=q.den_nz;generalize i:p.den=b at*
  generalize j:q.den=b at*
  generalize k:decide (p<0)=s at*
  generalize l:decide (q<0)=t at*
  rw[d,e,wL,Rat.mkRat_mul_mkRat,Rat.mkRat_eq_iff (ti (ti a c) f) a];unfold j2;simp only[zW];cases s<;>cases t<;>simp<;>grind
 grind
section
variable[bL]
theorem Uc(a:dQ X)(d:ck pm H){v w:Value}{p q:Rat}{k:Nat}(b7:gC H v p)(cH:gC H w q)(e:aV p k)(f:aV q k)(av:k<67108864):
 Call X pm F.lx [v,w] H λr ab=>bx pm H ab/\(q=0/\r=.tuple #[.pointer none,.bool false]∨q≠0/\∃x,r=.tuple #[x,.bool true]/\ht ab x (p/q)):=by
 refine Call.has a.lx rfl ?_;simp;refine al.of (oi a d b7) ?_;rintro _ _ ⟨c,_,_,rfl,g,k⟩;simp;refine al.of (oi a c.ok (cH.u d c)) ?_;rintro _ _ ⟨b,_,_,rfl,l,d⟩;simp;refine al.of (s7 a b.ok (g.u c.ok b) d e.1 f.2) ?_;rintro _ _ ⟨d,m⟩;simp;refine al.of (s7 a d.ok ((k.u c.ok b).u b.ok d) (l.u b.ok d) e.2 f.1) ?_;rintro _ _ ⟨g,k⟩;simp;refine al.of (MP a g.ok (neg:=!(decide (p<0)==decide (q<0))) (m.u d.ok g) k (lY e.1 f.2) (lY e.2 f.1) (by omega)) ?_;have i:=c.trans (b.trans (d.trans g));rintro _ _ ⟨j,⟨h,rfl⟩ | ⟨h,x,rfl,n⟩⟩
 ·have:q=0:=by
   rcases Nat.mul_eq_zero.1 h with h | h
   ·exact absurd h p.den_nz
   ·simp_all
  simp;exact⟨i.trans j,this⟩
 ·have:q≠0:=by
   rintro rfl;simp at h
  simp;exact⟨i.trans j,this,by rw[Pz this];exact n⟩
def UM(H:ae)(r:Value)(t:Int)(b:Nat):Prop:=∃s x j,r=.tuple #[.bool s,x]/\cr H x j/\j2 s j=t/\j<=b
theorem S4(b:dQ X)(c:ck pm H){p q:Bool}{v w:Value}{n m k:Nat}(d:cr H v n)(e:cr H w m)(f:n<4294967296^k)(g:m<4294967296^k)(av:k<268435456):
 Call X pm F.qk [.bool p,v,.bool q,w] H λr ab=>bx pm H ab/\UM ab r (j2 p n+j2 q m) (n+m):=by
 refine Call.has b.qk rfl ?_;by_cases i:p=q
 ·subst i;simp;refine al.of (E1 b c d e f g av) ?_;rintro r _ ⟨a,h⟩;simp;exact⟨a,p,r,n+m,rfl,h,by unfold j2;grind,bc _⟩
 ·have j:(p==q)=false:=by simpa using i
  simp[j];refine al.of (Qf b c d e f g av) ?_;rintro _ _ ⟨a,⟨_,rfl⟩ | ⟨k,x,rfl,h⟩⟩
  ·simp;refine al.of (Qf b a.ok (e.u c a) (d.u c a) g f av) ?_;rintro _ _ ⟨l,⟨_,rfl⟩ | ⟨k,x,rfl,h⟩⟩
   ·omega
   ·simp;refine⟨a.trans l,q,x,m-n,rfl,h,?_,by omega⟩;unfold j2;grind
  ·simp;refine⟨a,p,x,n-m,rfl,h,?_,by omega⟩;unfold j2;grind
theorem Mn(a:dQ X)(o:ck pm H){v w:Value}{p q:Rat}{k:Nat}(b7:gC H v p)(cH:gC H w q)(b:aV p k)(c:aV q k)(av:k<67108864):
 Call X pm F.hV [v,w] H λr ab=>bx pm H ab/\ht ab r (p+q):=by
 refine Call.has a.hV rfl ?_;simp;refine al.of (oi a o b7) ?_;rintro _ _ ⟨e,_,_,rfl,u,x⟩;simp;refine al.of (oi a e.ok (cH.u o e)) ?_;rintro _ s ⟨d,_,_,rfl,i,g⟩;have j:=u.u e.ok d;have h:=x.u e.ok d;simp;refine al.of (tP a j b.1 (by omega)) ?_;rintro _ s ⟨rfl,rfl⟩;have k:=e.trans d;by_cases e:p.num=0
 ·have m:p=0:=Rat.num_eq_zero.1 e;simp[e];refine al.of (xM a d.ok (neg:=decide (q<0)) i g c.1 c.2 q.den_nz) ?_;rintro r _ ⟨n,f⟩;rw[CE]at f;simp;rw[m,De];exact⟨k.trans n,f⟩
 simp[e];refine al.of (F9 a h g b.2 c.2 (by omega)) ?_;rintro _ s ⟨rfl,rfl⟩;have e:p=mkRat (j2 (decide (p<0)) p.num.natAbs) p.den:=by rw[<-nU];exact(Rat.mkRat_self p).symm
 have e:q=mkRat (j2 (decide (q<0)) q.num.natAbs) q.den:=by rw[<-nU];exact(Rat.mkRat_self q).symm
 by_cases l:p.den=q.den
 ·have e:gJ p.den q.den=0:=by simp[gJ,l]
  simp[e];refine al.of (S4 a d.ok (p:=decide (p<0)) (q:=decide (q<0)) j i b.1 c.1 (by omega)) ?_;rintro _ _ ⟨f,m,_,n,rfl,e,o,s⟩;simp;refine al.of (xM a f.ok (neg:=m) e (h.u d.ok f) (dk s (C7 b.1 c.1)) (lv b.2 (by omega)) p.den_nz) ?_;rintro r _ ⟨e,_⟩;simp;refine⟨k.trans (f.trans e),?_⟩;have:p+q=hj m n p.den:=by
   rw[wL,o,l,Rat.add_def',<-nU,<-nU,l,<-Int.add_mul];exact Rat.mkRat_mul_right q.den_nz
  grind
 ·have v:gJ p.den q.den≠0:=by unfold gJ;split<;>simp
  simp[v];refine al.of (s7 a d.ok j g b.1 c.2) ?_;rintro _ _ ⟨f,e⟩;simp;refine al.of (s7 a f.ok (i.u d.ok f) (h.u d.ok f) c.1 b.2) ?_;rintro _ _ ⟨m,i⟩;simp;refine al.of (S4 a m.ok (p:=decide (p<0)) (q:=decide (q<0)) (e.u f.ok m) i (lY b.1 c.2) (lY c.1 b.2) (by omega)) ?_;rintro _ _ ⟨n,t,_,w,rfl,i,j,l⟩;have e:=f.trans (m.trans n);simp;refine al.of (s7 a n.ok (h.u d.ok e) (g.u d.ok e) b.2 c.2) ?_;rintro _ _ ⟨d,f⟩;simp;refine al.of (xM a d.ok (neg:=t) (i.u n.ok d) f (dk l (C7 (lY b.1 c.2) (lY c.1 b.2))) (lv (lY b.2 c.2) (by omega)) (ti p.den_nz q.den_nz)) ?_;rintro r _ ⟨a,_⟩;simp;refine⟨k.trans (e.trans (d.trans a)),?_⟩;have:p+q=hj t w (p.den*q.den):=by
   rw[wL,j,Rat.add_def'];congr 1;rw[nU p,nU q];unfold j2;cases decide (p<0)<;>cases decide (q<0)<;>simp[Int.neg_mul]
  grind
end
theorem r2{q:Rat}{k:Nat}(h:aV q k):aV (-q) k:=by
 obtain⟨a,b,_⟩:=QB q;exact⟨by rw[a];exact h.1,by rw[b];exact h.2⟩
section
variable[bL]
theorem M0(a:dQ X)(c:ck pm H){v w:Value}{p q:Rat}{k:Nat}(b7:gC H v p)(cH:gC H w q)(e:aV p k)(d:aV q k)(av:k<67108864):
 Call X pm F.kV [v,w] H λr ab=>bx pm H ab/\ht ab r (p-q):=by
 refine Call.has a.kV rfl ?_;simp;refine al.of (MO a c cH d (by omega)) ?_;rintro _ _ ⟨b,f⟩;simp;refine al.of (Mn a b.ok (b7.u c b) f.1 e (r2 d) av) ?_;rintro _ _ ⟨a,_⟩;simp;exact⟨b.trans a,by grind⟩
theorem T0(a:dQ X)(c:ck pm H){v w:Value}{p q:Rat}{k:Nat}(b7:gC H v p)(cH:gC H w q)(d:aV p k)(e:aV q k)(f:aV (p-q) (2*k+1))(av:k<67108864):
 Call X pm F.hr [v,w] H λr ab=>bx pm H ab/\r=.int .i64 (if p<q then -1 else if p=q then 0 else 1):=by
 refine Call.has a.hr rfl ?_;simp;refine al.of (M0 a c b7 cH d e av) ?_;rintro _ _ ⟨b,c⟩;simp;refine al.of (MY a b.ok c.1 f (by omega)) ?_;rintro _ _ ⟨g,rfl⟩;have a:(p-q<0)↔(p<q):=by constructor<;>intro h<;>grind
 have c:(p-q=0)↔(p=q):=by constructor<;>intro h<;>grind
 simp[a,c];exact b.trans g
end
end Go.Dam.C
namespace Go.Dam
open Go
abbrev ak(l:List UInt8):Value:=.string ⟨l.toArray⟩
@[simp] theorem QA(l:List UInt8):(ByteArray.mk l.toArray).size=l.length:=rfl
@[simp] theorem mk_data(l:List UInt8):(ByteArray.mk l.toArray).data=l.toArray:=rfl
theorem Nj{a b:ByteArray}(h:a.data.toList=b.data.toList):a=b:=by
 obtain⟨⟨a⟩⟩:=a;simp_all
theorem Ql(a:ByteArray):∀(n i:Nat) (r:List UInt8),a.size-i=n->ByteArray.toList.loop a i r=r.reverse++a.data.toList.drop i:=by
 intro n
 induction n with
 | zero=>
   intro i r _;rw[ByteArray.toList.loop];have b:¬i<a.size:=by omega
   rw[aw b,List.drop_eq_nil_of_le (by simp_all)];simp
 | succ n ih=>
   intro i r _;rw[ByteArray.toList.loop];have b:i<a.size:=by omega
   have c:i<a.data.toList.length:=by rw[l5];exact b
   rw[aL b,ih (i+1) _ (by omega),List.drop_eq_getElem_cons c];have b:a.get! i=a.data.toList[i]:=by
    show a.data[i]! = _;rw[getElem!_pos a.data i (by simpa using c)];simp
   grind
@[simp] theorem adp(l:List UInt8):(ByteArray.mk l.toArray).toList=l:=by
  simp_all
theorem eM(s:ByteArray):s.toList=s.data.toList:=by
 unfold ByteArray.toList;rw[Ql _ _ 0 [] rfl];simp
@[simp] theorem ado(l:List UInt8)(i j:Nat):(ByteArray.mk l.toArray).extract i j=⟨((l.drop i).take (j-i)).toArray⟩:=by
  apply Nj;simp[ByteArray.data_extract,List.extract_eq_take_drop]
@[simp] theorem adn(a b:List UInt8):(ByteArray.mk a.toArray++ByteArray.mk b.toArray)=⟨(a++b).toArray⟩:=by
  rfl
end Go.Dam
namespace Go.Dam.C
open Go Go.Dam
theorem Sc(c:Nat):Lib.repeatL [48] c=List.replicate c 48:=by
 induction c with
 | zero=>rfl
 | succ c ih=>rw[Lib.repeatL,ih];rfl
theorem zk{u k:Nat}(h:u<10^k)(av:1<=k):Lib.nDigits u<=k:=by
 induction k generalizing u with
 | zero=>omega
 | succ k ih=>
   by_cases a:u<10
   ·rw[Lib.nDigits_small a];omega
   ·rw[Lib.nDigits_big a];grind
section
variable[bL]
def uV:Nat->Nat->List UInt8
 | 0,_=>[]
 | k+1,r=>uV k (r/10)++[UInt8.ofNat (48+r%10)]
end
theorem Oq{q:Nat}(a:0<q):∀{k r:Nat},r<10^k->Lib.decDigits (q*10^k+r)=Lib.decDigits q++uV k r
 | 0,r,h=>by
   have:r=0:=by simpa using h
   subst this;simp[uV]
 | k+1,r,h=>by
   rw[eB]at h;have b:1<=10^k:=xg _ _ (by decide);have c:1<=q*10^k:=tm a b;have e:q*10^(k+1)+r=10*(q*10^k)+r:=by rw[eB];grind
   rw[e,Lib.decDigits,dif_neg (by omega)];have b:(10*(q*10^k)+r)/10=q*10^k+r/10:=by omega
   have c:(10*(q*10^k)+r)%10=r%10:=by omega
   rw[b,c,Oq a (k:=k) (r:=r/10) (by omega),uV,xc]
theorem RG:∀{k r:Nat},1<=k->r<10^k->uV k r=List.replicate (k-Lib.nDigits r) 48++Lib.decDigits r
 | 0,r,_,_=>by omega
 | 1,r,_,h=>by
   have h:r<10:=by simpa using h
   rw[Lib.nDigits_small h,Lib.decDigits_one h];simp[uV,n1 h]
 | k+2,r,_,_=>by
   rw[uV,RG (k:=k+1) (r:=r/10) (by omega) (by grind)];by_cases a:r<10
   ·have e:r/10=0:=by omega
    rw[e,Lib.nDigits_small a,Lib.nDigits_small (by omega),Lib.decDigits_one (by omega:0<10),Lib.decDigits_one a,n1 a];rw[show k+2-1=(k+1-1)+1 by omega,List.replicate_succ',xc,xc];rfl
   ·rw[Lib.nDigits_big a,xc,show k+2-(Lib.nDigits (r/10)+1)=k+1-Lib.nDigits (r/10) by omega];congr 1
    conv=>rhs;rw[Lib.decDigits,dif_neg a]
section
variable[bL]
def jv(n:Nat):List UInt8:=if n=0 then[] else Lib.decDigits n
end
theorem V6(m:Nat)(b:m≠0):jv (m/1000000000)++(if m/1000000000=0 then Lib.decDigits (m%1000000000) else Lib.repeatL [48] (9-(Lib.decDigits (m%1000000000)).length)++Lib.decDigits (m%1000000000))=jv m:=by
 have a:jv m=Lib.decDigits m:=by simp[jv,b]
 by_cases h:m/1000000000=0
 ·rw[a,h];have:m%1000000000=m:=by omega
  simp[jv,this]
 ·rw[a,aw h,Sc,Lib.decDigits_length,<-RG (k:=9) (by omega) (by show m%1000000000<1000000000;omega)];rw[jv,aw h,<-Oq (by omega) (by show m%1000000000<1000000000;omega)];grind
theorem yR{n k:Nat}(h:n<4294967296^k)(av:1<=k):(Lib.decDigits n).length<=10*k:=by
 rw[Lib.decDigits_length];refine zk ?_ (by omega);rw[qm];exact fK h (zU (by decide) k)
theorem yS(n:Nat):Lib.decDigits n≠[]:=by
 intro h;have:=Lib.decDigits_length n;rw[h]at this;have:=Lib.nDigits_pos n;grind
end Go.Dam.C
namespace Go.Dam.C
open Go Go.Dam
variable[bL]
def abz:bz:=.cf (.nat 0)
def my(H:ae):Bool:=match H.get 1 with
 | some (.cf (.nat 0))=>true
 | _=>false
def wi(_:Perm)(args:List Value)(H:ae):Option (Value×ae):=match args with
 | [.int .u64 (.ofNat u),.int .i64 b]=>bif hS b 10&&(Nat.blt u 18446744073709551616&&my H) then some (ak (Lib.decDigits u),H) else none
 | _=>none
def wj(_:Perm)(args:List Value)(H:ae):Option (Value×ae):=match args with
 | [.string s,.int .i64 (.ofNat c)]=>bif Nat.ble c 1000&&Nat.ble s.size 1000 then some (ak (Lib.repeatL s.data.toList c),H) else none
 | _=>none
def y8(_:Perm)(args:List Value)(H:ae):Option (Value×ae):=match args with
 | [.string s,.string c]=>bif Nat.ble s.size 1000000&&(Nat.ble c.size 1000&&c.data.toList.all λb=>Nat.blt b.toNat 128) then some (ak (Lib.trimS s.data.toList c.data.toList),H) else none
 | _=>none
def y7(_:Perm)(args:List Value)(H:ae):Option (Value×ae):=match args with
 | [.string s,.int .i64 b,.int .i64 c]=>bif hS b 10&&(hS c 32&&Nat.ble s.size 1000000) then(match Lib.parseUintB 32 s.data.toList with
   | .ok u=>some (.tuple #[.int .u64 (u:Int),.nilIface],H)
   | _=>none) else none
 | _=>none
def uw(_:Perm)(args:List Value)(H:ae):Option (Value×ae):=match args with
 | [.string s,.int .u8 (.ofNat c)]=>bif Nat.blt c 256 then some (.int .i64 (lj c s.data.toList 0),H) else none
 | _=>none
structure h5(X:aA):Prop extends dQ X where
 idx:X.gv F.E'=some uw
 ph:Has X F.ph C.ph
 pj:Has X F.pj C.pj
 pc:Has X F.pc C.pc
 pd:Has X F.pd C.pd
 pe:Has X F.pe C.pe
 r0:Has X F.r0 C.r0
 qz:Has X F.qz C.qz
 fmt:X.gv F.Jt=some wi
 rep:X.gv F.JB=some wj
 trim:X.gv F.Am=some y8
 parse:X.gv F.Ju=some y7
variable{X:aA}{pm:Perm}{H ab:ae}
def Tab(H:ae):Prop:=H.get 1=some abz
theorem Tab.u(h:Tab H)(a:ck pm H)(av:bx pm H ab):Tab ab:=av.some a h
end Go.Dam.C
namespace Go.Dam.C
open Go Go.Dam
variable{X:aA}{pm:Perm}{H ab:ae}
theorem WB(a:h5 X)(b:Tab H){u:Nat}(c:u<18446744073709551616):Call X pm F.Jt [.int .u64 (u:Int),.int .i64 10] H λr ab=>ab=H/\r=ak (Lib.decDigits u):=by
 refine Call.over a.fmt (v:=ak (Lib.decDigits u)) (ab:=H) ?_ ⟨rfl,rfl⟩;show wi pm [.int .u64 (.ofNat u),.int .i64 10] H=_;have a:my H=true:=by unfold my;rw[b];rfl
 simp only[wi,a,hE,c,decide_true];rfl
theorem aaI(a:h5 X){l:List UInt8}{c:Nat}(b:c<=1000)(aY:l.length<=1000):Call X pm F.JB [ak l,.int .i64 (c:Int)] H λr ab=>ab=H/\r=ak (Lib.repeatL l c):=by
 refine Call.over a.rep (v:=ak (Lib.repeatL l c)) (ab:=H) ?_ ⟨rfl,rfl⟩;show wj pm [ak l,.int .i64 (.ofNat c)] H=_;simp[wj,cJ,b,aY]
end Go.Dam.C
namespace Go.Dam.C
open Go Go.Dam
variable[bL]
attribute [simp] tG
variable{X:aA}{pm:Perm}{H ab:ae}
theorem VP(b:ck pm H){r:Value}{a:List Nat}(c:dh H r a)(e:a.length<=1073741824):
 ∃e Ut,bf.run pm (fz 1 r λnew n=>fj 1 4 (.slice none 0 0) new n) H=some (e,Ut)/\bx pm H Ut/\dh Ut e a:=by
 by_cases d:a=[]
 ·subst d;refine⟨.slice none 0 0,H,?_,.refl b,.nil⟩;obtain⟨_,⟨rfl,_⟩ | ⟨_,a,_,_,f,rfl,g,h,_,i,_⟩⟩:=id c
  ·rfl
  ·simp[g,h.row,bB,fj,cJ,show a<=f.length by simpa using i]
 ·obtain⟨_,_,_,_,_,rfl,f,g,h⟩:=c.parts d;have e:0<a.length:=rT.2 d;have i:(cq a).all dd=true:=by
   rw[eA];intro _ a;obtain⟨_,_,rfl⟩:=gl.1 a;rfl
  refine⟨.slice (some ⟨H.next,0,none⟩) a.length a.length,H.new (.cells (cq a) (.n 1)),?_,(bx.refl b).new _,c.1,.inr ⟨H.next,0,a.length,_,cq a,rfl,cc,.inl rfl,?_,?_,bc _,b.new _ (bc _)⟩⟩
  ·simp[f,g,h,fj,cJ,i,show ¬a.length=0 by omega,show a.length*4<=17179869184 by omega,show a.length<=17179869184 by omega,b.make,b.pick]
  ·rw[List.drop_zero,qn (by simp[cq])]
  ·simp[cq]
theorem EV(d:h5 X)(t:ck pm H)(E:Tab H){v:Value}{n k:Nat}(G:cr H v n)(w:n<4294967296^k)(I:1<=k)(av:k<100000000):
 Call X pm F.p3 [v] H λr ab=>bx pm H ab/\r=ak (Lib.decDigits n):=by
 obtain⟨J,K,x,z⟩:=G.out;have L:=hn x z w;refine Call.has d.p3 rfl ?_;simp;refine al.of (iG d.dx K) ?_;rintro _ _ ⟨rfl,G⟩;obtain⟨K,M,N,h,O⟩:=VP t G (by omega);simp[-fz,N];refine fh.of (λs:Value×List Nat×List UInt8=>[(3,s.1),(4,ak s.2.2)]) (λs ab=>bx pm M ab/\dh ab s.1 s.2.1/\strip s.2.1=s.2.1/\s.2.1.length<=k/\jv (aN s.2.1)++s.2.2=jv n) (λs=>aN s.2.1) (K,J,[]) (by simp) ⟨.refl h.ok,O,x,L,by simp[z]⟩ ?_;rintro⟨_,a,s⟩ _ ⟨e,i,A,B,f⟩;simp only at i A B f;obtain⟨_,_,rfl⟩:=i.form;have x:(jv n).length<=10*k:=by
  unfold jv;split
  ·simp
  ·exact yR w I
 by_cases p:a=[]
 ·subst p;have c:s=jv n:=by simpa [aN,jv]using f
  simp[c];by_cases b:n=0
  ·subst b;simp[jv];exact⟨h.trans e,by rw[Lib.decDigits_one (by omega)];rfl⟩
  ·have:jv n=Lib.decDigits n:=by simp[jv,b]
   rw[this];simp[yS n];exact h.trans e
 ·have w:0<a.length:=rT.2 p;have F:aN a≠0:=by
   have:=wT A p;have:=u6 (n:=a.length-1) (show 0<4294967296 by decide);omega
  simp[w];refine al.of (S1 d.todQ e.ok i (by omega) (y:=1000000000) (by omega) (by omega)) ?_;rintro _ _ ⟨j,_,b,rfl,p,g,_⟩;simp;refine al.of (HR d.ek j.ok p (by omega)) ?_;rintro _ r ⟨q,_,_,_,rfl,p,w,v⟩;have x:=h.trans (e.trans (j.trans q));simp[p,w];refine al.of (WB d (E.u t x) (u:=aN a%1000000000) (by omega)) ?_;rintro _ r ⟨rfl,rfl⟩;obtain⟨C,D,rfl⟩:=v.form;have H:(strip b).length<=k:=by
   have:=hn (k:=k) (xK b) (mJ b) (by rw[g];exact dk (lA _ _) (fK (oT i.1) (hX (by decide) B)));exact this
  have m:=Lib.decDigits_length (aN a%1000000000);have h:Lib.nDigits (aN a%1000000000)<=9:=zk (by grind) (by omega);have o:=V6 (aN a) F;have h:s.length<=10*k:=by
   have:=congrArg List.length f;simp at this;omega
  have P:aN a/1000000000<aN a:=by omega
  by_cases h:strip b=[]
  ·have c:aN a/1000000000=0:=by rw[<-g,<-mJ,h];rfl
   rw[aL c]at o;simp[h,cJ,m,show Lib.nDigits (aN a%1000000000)+s.length<=4294967296 by omega];refine .of (.slice C 0 D,[],Lib.decDigits (aN a%1000000000)++s) (by show aN []<aN a;simp[aN];omega) (by simp) ⟨e.trans (j.trans q),by grind,by simp[strip],by simp,?_⟩;show jv (aN [])++(_++s)=jv n;rw[<-f,<-o,c];simp[aN]
  ·have i:aN a/1000000000≠0:=by
    rw[<-g,<-mJ];have:=wT (xK b) h;have:=u6 (n:=(strip b).length-1) (show 0<4294967296 by decide);omega
   rw[aw i]at o;have i:wr .i64 ((9:Int)-((Lib.nDigits (aN a%1000000000):Nat):Int))=((9-Lib.nDigits (aN a%1000000000):Nat):Int):=by rw[cE];omega
   have k:0<(strip b).length:=rT.2 h;simp[k,cJ,m,i];refine al.of (aaI d (l:=[48]) (c:=9-Lib.nDigits (aN a%1000000000)) (by omega) (by simp)) ?_;rintro _ r ⟨rfl,rfl⟩;have d:(Lib.repeatL [48] (9-Lib.nDigits (aN a%1000000000))).length=9-Lib.nDigits (aN a%1000000000):=by rw[Sc];simp
   simp[cJ,m,d,show 9-Lib.nDigits (aN a%1000000000)+Lib.nDigits (aN a%1000000000)<=4294967296 by omega,show 9-Lib.nDigits (aN a%1000000000)+Lib.nDigits (aN a%1000000000)+s.length<=4294967296 by omega];refine .of (.slice C (strip b).length D,strip b,Lib.repeatL [48] (9-Lib.nDigits (aN a%1000000000))++Lib.decDigits (aN a%1000000000)++s) (by show aN (strip b)<aN a;rw[mJ,g];exact P) (by simp) ⟨e.trans (j.trans q),v,xK b,H,?_⟩;show jv (aN (strip b))++(_++s)=jv n;rw[mJ,g,<-f,<-o,m];simp
end Go.Dam.C
namespace Go.Dam.C
open Go Go.Dam
variable{X:aA}{pm:Perm}{H ab:ae}
section
variable[bL]
def gL(c:UInt8):Bool:=Nat.ble 48 c.toNat&&Nat.ble c.toNat 57
def oD(a:Nat)(l:List UInt8):Nat:=l.foldl (λb c=>b*10+(c.toNat-48)) a
def dV(l:List UInt8):Nat:=oD 0 l
end
theorem V7(l:List UInt8):∀a,oD a l=a*10^l.length+dV l:=by
 induction l with
 | nil=>intro a;simp[oD,dV]
 | cons c l ih=>
   intro a;have b:=ih (a*10+(c.toNat-48));have a:=ih (0*10+(c.toNat-48));simp only[dV,oD,xe]at b a|-;grind
theorem Gt(a b:List UInt8):dV (a++b)=dV a*10^b.length+dV b:=by
 rw[dV,oD,List.foldl_append];exact V7 b _
theorem BS{l:List UInt8}(h:l.all gL=true):dV l<10^l.length:=by
 induction l with
 | nil=>simp[dV,oD]
 | cons c l ih=>
   simp only[qp,bK]at h;have a:=ih h.2;have a:dV (c::l)=(c.toNat-48)*10^l.length+dV l:=by
    have:=Gt [c] l;simpa [dV,oD]using this
   have b:c.toNat-48<=9:=by
    have:=h.1;simp[gL,cJ]at this;omega
   rw[a,iK,eB];have:=fV (10^l.length) b;omega
theorem RI:∀(l:List UInt8) (a:Nat),l.all gL=true->(a+1)*10^l.length<=1000000000->Lib.parseUintM (2^32-1) a l=.ok (oD a l)
 | [],a,_,_=>rfl
 | c::l,a,h,d=>by
   simp only[qp,bK]at h;have b:=h.1;simp[gL,cJ]at b;rw[iK,eB]at d;have f:1<=10^l.length:=xg _ _ (by decide);have e:(a*10+(c.toNat-48)+1)*10^l.length<=1000000000:=by
    refine a8 (fV _ (show a*10+(c.toNat-48)+1<=(a+1)*10 by omega)) ?_;rw[l3,eZ 10];exact d
   have d:a*10+(c.toNat-48)+1<=1000000000:=a8 (xp _ f) e;rw[Lib.parseUintM,aL ⟨b.1,b.2⟩,aw (by omega),aw (by omega)];exact RI l _ h.2 e
section
variable[bL]
abbrev tI:List UInt8:=[48,49,50,51,52,53,54,55,56,57]
end
theorem abM(c:UInt8):tI.contains c=gL c:=by
 have:∀n:_root_.Fin 256,tI.contains (UInt8.ofNat n.val)=gL (UInt8.ofNat n.val):=by decide +kernel
 have h:=this ⟨c.toNat,c.toNat_lt⟩;simpa using h
theorem dropWhile_nil{p:UInt8->Bool}:∀{l:List UInt8},l.dropWhile p=[]->l.all p=true
 | [],_=>rfl
 | c::l,h=>by
   rw[List.dropWhile_cons]at h;split at h
   ·rename_i a;simp[a];have:=dropWhile_nil h;grind
   ·cases h
theorem Tw{l:List UInt8}:(Lib.trimS l tI=[])↔l.all gL=true:=by
 have e:(λc=>tI.contains c)=gL:=funext abM;constructor
 ·intro h;unfold Lib.trimS Lib.trimLeftS Lib.trimRightS at h;rw[e]at h;have a:=dropWhile_nil h;rw[List.all_reverse]at a;have b:(l.reverse.takeWhile gL).all gL=true:=by
   exact List.all_takeWhile
  have d:l.reverse.all gL=true:=by
   rw[<-List.takeWhile_append_dropWhile (p:=gL) (l:=l.reverse),List.all_append,b,a];rfl
  grind
 ·intro h;unfold Lib.trimS Lib.trimLeftS Lib.trimRightS;rw[e];have a:l.reverse.dropWhile gL=[]:=by
   have:l.reverse.all gL=true:=by rw[List.all_reverse];exact h
   generalize l.reverse=m at*
   induction m with
   | nil=>rfl
   | cons c m ih=>
     simp_all
  rw[a];rfl
theorem ab2(a:h5 X){l:List UInt8}(aY:l.length<=1000000):Call X pm F.Am [ak l,ak tI] H λr ab=>ab=H/\r=ak (Lib.trimS l tI):=by
 refine Call.over a.trim (v:=ak (Lib.trimS l tI)) (ab:=H) ?_ ⟨rfl,rfl⟩;simp only[y8,cJ,QA,aY,decide_true,Bool.true_and];rfl
theorem Z'(a:h5 X){l:List UInt8}(h:l.all gL=true)(aP:l≠[])(b:l.length<=9):Call X pm F.Ju [ak l,.int .i64 10,.int .i64 32] H λr ab=>ab=H/\r=.tuple #[.int .u64 ((dV l:Nat):Int),.nilIface]:=by
 refine Call.over a.parse (v:=.tuple #[.int .u64 ((dV l:Nat):Int),.nilIface]) (ab:=H) ?_ ⟨rfl,rfl⟩;have a:Lib.parseUintB 32 l=.ok (dV l):=by
  unfold Lib.parseUintB;rw[aw aP];refine RI l 0 h ?_;have:10^l.length<=10^9:=hX (by decide) b;omega
 simp only[y7,cJ,QA,show l.length<=1000000 by omega,decide_true];simp[a]
section
variable[bL]
def ie(l:List UInt8):Bool:=!l.isEmpty&&(Nat.ble l.length 2000&&(!(Nat.blt 1 l.length&&l.head? ==some 48)&&l.all gL))
end
theorem IM(n:Nat):10^n<=4294967296^n:=zU (by decide) n
theorem UW{p:UInt8->Bool}{l:List UInt8}(h:l.all p=true)(k:Nat):(l.take k).all p=true/\(l.drop k).all p=true:=by
 grind
section
variable[bL]
def sA(pm:Perm)(H:ae)(l:List UInt8):cl:=λx b ab=>(x=e1.normal∨x=e1.ret)/\∃a,kn b ab [.slot 2,.slot 3]=some a/\(bx pm H ab/\(ie l=false/\iw a=.tuple #[.pointer none,.bool false]∨ie l=true/\∃p,iw a=.tuple #[p,.bool true]/\cr ab p (dV l)))
theorem Us(b:h5 X)(i:ck pm H){l:List UInt8}(a':ie l=true)(A:l.all gL=true)(j:l.length<=2000)(b7:1<=l.length){L:bn}(B:aF 0 L=some (ak l)):
 wp X pm (.code s8) L H [] (sA pm H l):=by
 simp;refine al.of (HR b.ek i dh.nil (by simp)) ?_;rintro i j ⟨C,o⟩;have o:cr j i 0:=(show eT j i (strip []) from .inr o).nat;have s:wr .i64 ((l.length%9:Nat):Int)=((l.length%9:Nat):Int):=cE;have M:wr .i64 ((l.length:Int)%9)=((l.length%9:Nat):Int):=by rw[<-s];simp
 simp[B]
 refine fh.of (λs:List UInt8×Nat×Value×Nat=>[(0,ak s.1),(5,.int .i64 (s.2.1:Int)),(4,s.2.2.1)])
  (λs ab=>bx pm j ab/\cr ab s.2.2.1 s.2.2.2/\s.1.all gL=true/\s.1.length<=l.length/\dV l=s.2.2.2*10^s.1.length+dV s.1/\(s.2.1=9->s.1.length%9=0)/\(s.2.1≠9->s.2.1=s.1.length%9/\s.2.2.2=0))
  (λs=>2*s.1.length+(if s.2.1=9 then 0 else 1)) (l,l.length%9,i,0) (by simp[B]) ⟨.refl C.ok,o,A,bc _,by simp,by simp;omega,by simp⟩ ?_
 rintro⟨r,a,G,m⟩ I ⟨c,p,q,D,d,E,e⟩;simp only at p q D d E e;by_cases f:r=[]
 ·subst f;have:m=dV l:=by rw[d];simp[dV,oD]
  simp[sA,a'];exact⟨C.trans c,by grind⟩
 ·have i:0<r.length:=rT.2 f;by_cases H:a=0
  ·subst H;have:=e (by omega);simp[f];exact .of (r,9,G,m) (by simp) (by simp) ⟨c,p,eA.1 q,D,d,λ_=>this.1.symm,λh=>absurd rfl h⟩
  ·have i:0<a:=by omega
   have t:a<=r.length/\a<=9:=by
    by_cases h:a=9
    ·have:=E h;omega
    ·have:=e h;omega
   have u:=UW q a;have v:(r.take a).length=a:=by simp;omega
   have g:(r.drop a).length=r.length-a:=by simp
   simp[f,i,t];refine al.of (Z' b u.1 (by intro h;rw[h]at v;simp at v;omega) (by omega)) ?_;rintro _ I ⟨rfl,rfl⟩;have J:List.take (r.length-a) (r.drop a)=r.drop a:=qn (by rw[g];exact bc _);have f:=BS u.1;rw[v]at f;have i:dV (r.take a)<1000000000:=fK f (hX (n:=10) (by decide) t.2);have f:dV r=dV (r.take a)*10^(r.length-a)+dV (r.drop a):=by
    conv=>lhs;rw[<-zM a r]
    rw[Gt,g]
   have F:dV l=(m*1000000000+dV (r.take a))*10^(r.length-a)+dV (r.drop a):=by
    rw[d,f];by_cases h:a=9
    ·have:10^r.length=1000000000*10^(r.length-a):=by
      rw[h,show(1000000000:Nat)=10^9 from rfl,<-hG];congr 1;omega
     rw[this];grind
    ·rw[(e h).2];simp
   have e:=BS A;have f:1<=10^(r.length-a):=xg _ _ (by decide);have d:m*1000000000+dV (r.take a)<4294967296^l.length:=by
    refine dk ?_ (fK e (IM _));rw[F];exact a8 (xp _ f) (gj _ _)
   have e:1000000000<4294967296^l.length:=by
    have:4294967296^1<=4294967296^l.length:=hX (by decide) b7;omega
   simp;refine al.of (zw b.todQ c.ok (x:=1000000000)) ?_;rintro _ _ ⟨w,f⟩;simp;refine al.of (s7 b.todQ w.ok (p.u c.ok w) f (k:=l.length) (dk (by omega) d) e) ?_;rintro _ _ ⟨y,e⟩;simp;refine al.of (zw b.todQ y.ok (x:=dV (r.take a))) ?_;rintro _ _ ⟨z,f⟩;simp;refine al.of (E1 b.todQ z.ok (e.u y.ok z) f (k:=l.length) (dk (gj _ _) d) (dk (Nat.le_add_left _ _) d) (by omega)) ?_;rintro b _ ⟨K,L⟩;simp[t];refine .of (r.drop a,9,b,m*1000000000+dV (r.take a)) (by show 2*(r.drop a).length+0<2*r.length+_;rw[g];omega) (by simp;exact J.symm▸rfl) ⟨c.trans (w.trans (y.trans (z.trans K))),L,eA.1 u.2,by simp;omega,by show dV l=_;simp only;rw[g];exact F,λ_=>?_,λh=>absurd rfl h⟩;grind
theorem EG(f:h5 X)(d:ck pm H){l:List UInt8}:
 Call X pm F.oR [ak l] H λr ab=>bx pm H ab/\(ie l=false/\r=.tuple #[.pointer none,.bool false]∨ie l=true/\∃p,r=.tuple #[p,.bool true]/\cr ab p (dV l)):=by
 refine Call.has f.oR rfl ?_;show wp X pm (.code oR.body) _ H [] (sA pm H l)
 cases a:l with
 | nil=>
   simp;refine al.not ?_;simp[ie,sA];exact .refl d
 | cons c _=>
   rw[<-a];have e:l.isEmpty=false:=by rw[a];rfl
   have h:l[0]? = some c:=by rw[a];rfl
   have i:l≠[]:=by rw[a];simp
   have i:l.head? = some c:=by rw[a];rfl
   have a':ie l=(Nat.ble l.length 2000&&(!(Nat.blt 1 l.length&&c==48)&&l.all gL)):=by unfold ie;rw[e,i];simp
   by_cases i:2000<l.length
   ·simp[e,i];refine al.not ?_;simp[sA,a',cJ,show ¬l.length<=2000 by omega];exact .refl d
   ·simp[e,i];by_cases b:1<l.length/\c.toNat=48
    ·simp[b.1,b.2,h];refine al.not ?_;have e:c=48:=zT.1 (by rw[b.2];rfl);simp[sA,a',hE,b.1,e];exact .refl d
    ·have j:∀{L:bn},aF 0 L=some (ak l)->aF 25 L=some (.bool false)->al X pm ⟨some 27,some (25,false),.call F.Am [.t 26,.c (.string ⟨#[48,49,50,51,52,53,54,55,56,57]⟩)]⟩ F.Am [.t 26,.c (.string ⟨#[48,49,50,51,52,53,54,55,56,57]⟩)] zm ((26,ak l)::L) H [.seq zl,.seq s8] (sA pm H l):=by
      intro L k g;refine al.of (a':=by simp[g]) (ab2 f (l:=l) (by omega)) ?_;rintro _ H ⟨rfl,rfl⟩;have i:ie l=l.all gL:=by
       rw[a'];have m:Nat.ble l.length 2000=true:=by simp[cJ];omega
       have n:(Nat.blt 1 l.length&&c==48)=false:=by
        by_cases o:1<l.length
        ·by_cases e:c=48
         ·exact absurd ⟨o,by rw[e];rfl⟩ b
         ·simp[e]
        ·simp[hE];omega
       rw[m,n];simp
      by_cases e:l.all gL=true
      ·have l:=Tw.2 e;simp[g,l,-s8];exact Us f d (by rw[i];exact e) e (by omega) (by rw[a];simp) (by simp[k])
      ·have f:Lib.trimS l tI≠[]:=λk=>e (Tw.1 k);simp[g,f,-s8,sA,i,e];exact .refl d
     by_cases d:1<l.length
     ·have e:((c.toNat:Int)==48)=false:=by
       have:¬c.toNat=48:=λc=>b ⟨d,c⟩;simp;omega
      simp[d,e,h,-s8,-zl,-zm];refine j ?_ ?_<;>simp[*]
     simp_all
end
theorem Uw(a:h5 X)(c:UInt8)(t:List UInt8):Call X pm F.pe [ak (c::t),ak [c]] H λr ab=>ab=H/\r=.bool true:=by
 refine Call.has a.pe rfl ?_;simp[show ¬((t.length:Int)+1<1) by omega]
theorem Uv(a:h5 X)(c:UInt8){l:List UInt8}(h:l.head?≠some c):Call X pm F.pe [ak l,ak [c]] H λr ab=>ab=H/\r=.bool false:=by
 refine Call.has a.pe rfl ?_
 cases l with
 | nil=>simp
 | cons d t=>
   have:d≠c:=λe=>h (by rw[e];rfl);simp[this,show ¬((t.length:Int)+1<1) by omega]
theorem T4(a:h5 X)(c:UInt8)(t:List UInt8):Call X pm F.pj [ak (c::t),ak [c]] H λr ab=>ab=H/\r=.tuple #[ak t,.bool true]:=by
 refine Call.has a.pj rfl ?_;simp;have h:Call X pm F.pd [ak (c::t),ak [c]] H λr ab=>ab=H/\r=.tuple #[ak t,.bool true]:=by
  refine Call.has a.pd rfl ?_;simp;refine al.of (Uw a c t) ?_;rintro _ _ ⟨rfl,rfl⟩;simp
 refine al.of h ?_;simp_all
theorem T3(a:h5 X)(c:UInt8){l:List UInt8}(h:l.head?≠some c):Call X pm F.pj [ak l,ak [c]] H λr ab=>ab=H/\r=.tuple #[ak l,.bool false]:=by
 refine Call.has a.pj rfl ?_;simp;have h:Call X pm F.pd [ak l,ak [c]] H λr ab=>ab=H/\r=.tuple #[ak l,.bool false]:=by
  refine Call.has a.pd rfl ?_;simp;refine al.of (Uv a c h) ?_;rintro _ _ ⟨rfl,rfl⟩;simp
 refine al.of h ?_;simp_all
theorem Pq:∀{l:List UInt8} {n:Nat},47∉l->lj 47 l n=-1
 | [],_,_=>rfl
 | c::l,n,h=>by
   have a:¬c.toNat=47:=λe=>h (by rw[show c=47 from zT.1 (by rw[e];rfl)];exact .head _);simp only[lj,dc,a,decide_false,cond_false];exact Pq λa=>h (.tail _ a)
theorem Pr:∀{a:List UInt8} {b:List UInt8} {n:Nat},47∉a->lj 47 (a++47::b) n=((n+a.length:Nat):Int)
 | [],b,n,_=>by
   rfl
 | c::a,b,n,h=>by
   have a:¬c.toNat=47:=λe=>h (by rw[show c=47 from zT.1 (by rw[e];rfl)];exact .head _);simp only[mW,lj,dc,a,decide_false,cond_false];rw[Pr λa=>h (.tail _ a)];grind
theorem W3(a:h5 X)(l:List UInt8):Call X pm F.E' [ak l,.int .u8 47] H λr ab=>ab=H/\r=.int .i64 (lj 47 l 0):=
 Call.over a.idx (v:=.int .i64 (lj 47 l 0)) (ab:=H) rfl ⟨rfl,rfl⟩
theorem MH(a:h5 X)(l:List UInt8):Call X pm F.r0 [ak l,ak [47]] H λr ab=>ab=H/\r=.int .i64 (lj 47 l 0):=by
 refine Call.has a.r0 rfl ?_;have h:Call X pm F.qz [ak l,.int .u8 47] H λr ab=>ab=H/\r=.int .i64 (lj 47 l 0):=by
  refine Call.has a.qz rfl ?_;simp;refine al.of (W3 a l) ?_;rintro _ _ ⟨rfl,rfl⟩;simp
 by_cases b:[47]=l
 ·subst b;simp;rfl
 simp[b];refine al.of h ?_;simp_all
theorem T6(a:h5 X){l:List UInt8}(aY:47∉l):Call X pm F.ph [ak l,ak [47]] H λr ab=>ab=H/\r=.tuple #[ak l,ak [],.bool false]:=by
 refine Call.has a.ph rfl ?_;simp;have h:Call X pm F.pc [ak l,ak [47]] H λr ab=>ab=H/\r=.tuple #[ak l,ak [],.bool false]:=by
  refine Call.has a.pc rfl ?_;simp;refine al.of (MH a l) ?_;rintro _ _ ⟨rfl,rfl⟩;rw[Pq aY];simp
 refine al.of h ?_;simp_all
section
variable[bL]
theorem T8(c:h5 X)(d:ck pm H){a b:List UInt8}(aI:47∉a)(aY:a.length<1000000):Call X pm F.ph [ak (a++47::b),ak [47]] H λr ab=>bx pm H ab/\r=.tuple #[ak a,ak b,.bool true]:=by
 refine Call.has c.ph rfl ?_;simp;have h:Call X pm F.pc [ak (a++47::b),ak [47]] H λr ab=>bx pm H ab/\r=.tuple #[ak a,ak b,.bool true]:=by
  refine Call.has c.pc rfl ?_;simp;refine al.of (MH c (a++47::b)) ?_;rintro _ _ ⟨rfl,rfl⟩;rw[Pr aI];have e:wr .i64 ((a.length:Int)+1)=((a.length+1:Nat):Int):=by rw[cE];simp
  simp;refine cx.yI d rfl rfl rfl ?_;simp[e];exact⟨(bx.refl d).up _,by rw[qn (by omega)]⟩
 refine al.of h ?_;simp_all
end
theorem Tj{neg:Bool}{n d k:Nat}(a:n<4294967296^k)(b:d<4294967296^k)(c:d≠0):aV (hj neg n d) k:=by
 have h:(if neg then -(n:Int) else(n:Int)).natAbs=n:=by cases neg<;>simp
 unfold hj;rw[<-zK c,zS];refine⟨dk ?_ a,dk (lA _ _) b⟩
 conv=>rhs;rw[<-h]
 exact zJ _ _
theorem AE{n:Int}:wr .u64 n=n%18446744073709551616:=by
 rw[r7];rfl
theorem TP(a:h5 X){n:Int}(aP:-9223372036854775808<=n)(b7:n<=9223372036854775807):Call X pm F.qZ [.int .i64 n] H λr ab=>ab=H/\r=.int .u64 ((n.natAbs:Nat):Int):=by
 refine Call.has a.qZ rfl ?_;by_cases b:n<0
 ·have e:wr .u64 (0-wr .u64 n)=((n.natAbs:Nat):Int):=by rw[AE,AE];omega
  simp_all
 ·have e:wr .u64 n=((n.natAbs:Nat):Int):=by rw[AE];omega
  simp[b,e]
section
variable[bL]
theorem UG(c:h5 X)(k:ck pm H){n:Int}(aP:-9223372036854775808<=n)(b7:n<=9223372036854775807):Call X pm F.hF [.int .i64 n] H λr ab=>bx pm H ab/\ht ab r (n:Rat):=by
 refine Call.has c.hF rfl ?_;simp;refine al.of (TP c aP b7) ?_;rintro _ _ ⟨rfl,rfl⟩;simp;refine al.of (zw c.todQ k (x:=n.natAbs)) ?_;rintro k _ ⟨d,f⟩;simp;refine al.of (wV c.todQ d.ok) ?_;rintro l _ ⟨a,g⟩;have m:∃b,k=.pointer b:=by
  rcases f.ptr with⟨h,_⟩ | ⟨b,h⟩
  ·grind
  ·grind
 have o:∃b,l=.pointer b:=by
  rcases g.ptr with⟨h,_⟩ | ⟨b,h⟩
  ·grind
  ·grind
 obtain⟨i,rfl⟩:=m;obtain⟨j,rfl⟩:=o;simp[a.ok.make,a.ok.pick];have e:=(bx.refl a.ok).new (bz.cells [.bool (decide (n<0)),.pointer i,.pointer j] (.t T.aai));refine⟨d.trans (a.trans e),⟨.inr ⟨_,_,.pointer i,.pointer j,rfl,cc,?_,?_,?_⟩⟩,_,_,_,rfl,cc⟩
 ·exact⟨by simp[Rat.intCast_neg_iff],rfl⟩
 ·rw[Rat.num_intCast];exact(f.u d.ok a).u a.ok e
 ·rw[Rat.den_intCast];exact g.u a.ok e
def bk(q:Rat):List UInt8:=(if q<0 then[45] else[])++(Lib.decDigits q.num.natAbs++(if q.den=1 then[] else 47::Lib.decDigits q.den))
end
theorem Gu(n:Nat):dV (Lib.decDigits n)=n:=by
 induction n using Nat.strongRecOn with
 | _ n ih=>
   by_cases h:n<10
   ·rw[Lib.decDigits_one h];have:(48+n)%256=48+n:=by omega
    simp[dV,oD,this]
   ·rw[Lib.decDigits,dif_neg h,Gt,ih (n/10) (by omega)];have:(48+n%10)%256=48+n%10:=by omega
    simp[dV,oD,this];omega
theorem Gw{n m:Nat}(h:Lib.decDigits n=Lib.decDigits m):n=m:=by rw[<-Gu n,h,Gu]
theorem BT{n:Nat}:Lib.decDigits n=[49]↔n=1:=by
 have a:Lib.decDigits 1=[49]:=by rw[Lib.decDigits_one (by omega)];rfl
 constructor
 ·intro h;rw[<-a]at h;exact Gw h
 grind
section
variable[bL]
theorem M5(b:h5 X)(i:ck pm H)(l:Tab H){v:Value}{q:Rat}{k:Nat}(h:gC H v q)(c:aV q k)(d:1<=k)(av:k<100000000):
 Call X pm F.hW [v] H λr ab=>bx pm H ab/\r=ak (bk q):=by
 refine Call.has b.hW rfl ?_;simp;refine al.of (oi b.todQ i h) ?_;rintro _ _ ⟨f,_,_,rfl,o,p⟩;simp;refine al.of (EV b f.ok (l.u i f) o c.1 d av) ?_;rintro _ _ ⟨g,rfl⟩;have o:=yR c.1 d;have o:=yR c.2 d;have e:=f.trans g;have k:=l.u i e;have m:=p.u f.ok g;by_cases a:q<0
 ·simp[a,cJ,show 1+(Lib.decDigits q.num.natAbs).length<=4294967296 by omega];refine al.of (EV b g.ok k m c.2 d av) ?_;rintro _ _ ⟨n,rfl⟩;by_cases j:q.den=1
  ·have h:Lib.decDigits 1=[49]:=BT.2 rfl;simp[j,h,bk,a];exact e.trans n
  ·have f:Lib.decDigits q.den≠[49]:=λh=>j (BT.1 h);simp[f,bk,a,j,cJ,show 1+(Lib.decDigits q.den).length<=4294967296 by omega,show(Lib.decDigits q.num.natAbs).length+1+((Lib.decDigits q.den).length+1)<=4294967296 by omega];exact e.trans n
 ·simp[a];refine al.of (EV b g.ok k m c.2 d av) ?_;rintro _ _ ⟨n,rfl⟩;by_cases j:q.den=1
  ·have h:Lib.decDigits 1=[49]:=BT.2 rfl;simp[j,h,bk,a];exact e.trans n
  ·have b:Lib.decDigits q.den≠[49]:=λh=>j (BT.1 h);simp[b,bk,a,j,cJ,show 1+(Lib.decDigits q.den).length<=4294967296 by omega,show(Lib.decDigits q.num.natAbs).length+((Lib.decDigits q.den).length+1)<=4294967296 by omega];exact e.trans n
def lh(l:List UInt8)(neg:Bool)(a b:List UInt8):Option Rat:=
 if ie a=true/\ie b=true/\dV b≠0/\bk (hj neg (dV a) (dV b))=l then some (hj neg (dV a) (dV b)) else none
def ik(l:List UInt8):Bool×List UInt8:=if l.head? = some 45 then(true,l.tail) else(false,l)
def kH(t:List UInt8):List UInt8×List UInt8:=if 47∈t then(t.takeWhile (· != 47),(t.dropWhile (· != 47)).tail) else(t,[49])
def gq(l:List UInt8):Option Rat:=lh l (ik l).1 (kH (ik l).2).1 (kH (ik l).2).2
def sz(pm:Perm)(H:ae)(o:Option Rat):cl:=λx b ab=>(x=e1.normal∨x=e1.ret)/\∃a,kn b ab [.slot 2,.slot 3]=some a/\(bx pm H ab/\(o=none/\iw a=.tuple #[.pointer none,.bool false]∨∃q p,o=some q/\iw a=.tuple #[p,.bool true]/\ht ab p q))
end
theorem wk{l:List UInt8}(h:ie l=true):dV l<4294967296^l.length/\l.length<=2000/\1<=l.length:=by
 unfold ie at h;simp[cJ]at h;refine⟨fK (BS (by rw[eA];exact h.2.2.2)) (IM _),h.2.1,?_⟩;grind
section
variable[bL]
theorem OS(c:h5 X){ai:ae}(d:bx pm ai H)(s:Tab H){l a b:List UInt8}{neg:Bool}{L:bn}(i:aF 0 L=some (ak l))(t:aF 5 L=some (.bool neg))(u:aF 6 L=some (ak a))(j:aF 7 L=some (ak b)):
 wp X pm (.code u2) L H [] (sz pm ai (lh l neg a b)):=by
 have k:=d.ok;simp[u,-oX];refine al.of (EG c k (l:=a)) ?_;rintro _ _ ⟨e,v⟩
 rcases v with⟨g1,rfl⟩ | ⟨g1,eH,rfl,WZ⟩
 ·simp[j,-oX];refine al.of (EG c e.ok (l:=b)) ?_;rintro _ _ ⟨a,f⟩
  rcases f with⟨g2,rfl⟩ | ⟨g2,bF,rfl,zc⟩<;>
  ·simp[-oX];refine al.not ?_;simp[sz,lh,g1,-oX];exact d.trans (e.trans a)
 ·simp[j,-oX];refine al.of (EG c e.ok (l:=b)) ?_;rintro _ _ ⟨g,w⟩
  rcases w with⟨g2,rfl⟩ | ⟨g2,bF,rfl,zc⟩
  ·simp[-oX];refine al.not ?_;simp[sz,lh,g2,-oX];exact d.trans (e.trans g)
  ·have m:=e.trans g;have x:=WZ.u e.ok g;obtain⟨j,_,_⟩:=wk g1;obtain⟨e,_,_⟩:=wk g2;have n:=lv j (gj a.length b.length);have o:=lv e (Nat.le_add_left b.length a.length);simp[-oX];refine al.of (tP c.todQ zc e (by omega)) ?_;rintro _ _ ⟨rfl,rfl⟩;by_cases f:dV b=0
   ·simp[f,sz,lh,-oX];exact d.trans m
   ·simp[f,t];refine al.of (xM c.todQ g.ok (neg:=neg) x zc n o f) ?_;rintro _ _ ⟨h,p⟩;have q:=m.trans h;simp;refine al.of (M5 c h.ok (s.u k q) p.1 (Tj n o f) (by omega) (by omega)) ?_;rintro _ _ ⟨r,rfl⟩;have e:=q.trans r;by_cases c:bk (hj neg (dV a) (dV b))=l
    ·simp[i,c,sz];refine⟨d.trans e,_,?_,p.u h.ok r⟩;simp[lh,g1,g2,f,c]
    ·simp[i,c,sz,lh];exact d.trans e
theorem Ur(c:h5 X)(f:ck pm H)(i:Tab H){l:List UInt8}(aY:l.length<1000000):
 Call X pm F.jc [ak l] H λr ab=>bx pm H ab/\(gq l=none/\r=.tuple #[.pointer none,.bool false]∨∃q p,gq l=some q/\r=.tuple #[p,.bool true]/\ht ab p q):=by
 refine Call.has c.jc rfl ?_;show wp X pm (.code jc.body) _ H [] (sz pm H (gq l));have m:∀{L:bn},(ik l).2.length<=l.length->aF 0 L=some (ak l)->aF 4 L=some (ak (ik l).2)->aF 5 L=some (.bool (ik l).1)->wp X pm (.code w') L H [] (sz pm H (gq l)):=by
  intro L n j g h;unfold gq;generalize p:ik l=o at*
  obtain⟨_,t⟩:=o;simp only at g h n;simp only;by_cases d:47∈t
  ·obtain⟨a,b,rfl,l⟩:=List.eq_append_cons_of_mem d;have n:kH (a++47::b)=(a,b):=by
    have b:∀x∈a,(x != (47:UInt8))=true:=λx _=>by
     grind
    unfold kH;rw[aL d,List.takeWhile_append_of_pos b,List.dropWhile_append_of_pos b];simp
   rw[n];simp[g,-u2];refine al.of (T8 c f (a:=a) (b:=b) l (by grind)) ?_;rintro _ _ ⟨k,rfl⟩;simp[-u2];refine OS c k (i.u f k) ?_ ?_ ?_ ?_<;>simp[j,h]
  ·have a:kH t=(t,[49]):=by unfold kH;rw[aw d]
   rw[a];simp[g,-u2];refine al.of (T6 c (l:=t) d) ?_;rintro _ _ ⟨rfl,rfl⟩;simp[-u2];refine OS c (.refl f) i ?_ ?_ ?_ ?_<;>simp[j,h]
 simp[-w'];by_cases e:l.head? = some 45
 ·have b:l=45::l.tail:=by
   cases l with
   | nil=>cases e
   | cons _ _=>grind
  have d:ik l=(true,l.tail):=by unfold ik;rw[aL e]
  have a:=T4 (X:=X) (pm:=pm) (H:=H) c 45 l.tail;rw[<-b]at a;refine al.of a ?_;rintro _ _ ⟨rfl,rfl⟩;simp[-w'];refine m ?_ ?_ ?_ ?_<;>simp[d]
 ·have a:ik l=(false,l):=by unfold ik;rw[aw e]
  refine al.of (T3 c 45 e) ?_;simp_all
theorem UN(a:dQ X)(e:ck pm H){v:Value}{q:Rat}{k:Nat}(h:gC H v q)(c:aV q k)(av:k<67108864):
 Call X pm F.l1 [v] H λr ab=>bx pm H ab/\r=.bool (decide (q.den=1)):=by
 refine Call.has a.l1 rfl ?_;simp;refine al.of (oi a e h) ?_;rintro _ _ ⟨b,_,_,rfl,_,e⟩;simp;refine al.of (wV a b.ok) ?_;rintro _ _ ⟨d,f⟩;simp;refine al.of (F9 a (e.u b.ok d) f c.2 (dk (qo q.den_nz) c.2) (by omega)) ?_;rintro _ _ ⟨rfl,rfl⟩;simp;refine⟨b.trans d,?_⟩;unfold gJ;grind
omit [bL] in
theorem WA(q:Rat):hj (decide (q<0)) (q.num.natAbs/q.den+(if q<0/\q.num.natAbs%q.den≠0 then 1 else 0)) 1=(q.floor:Rat):=by
 rw[wL];have a:(0:Int)<q.den:=Int.natCast_pos.2 q.den_pos;have e:j2 (decide (q<0)) (q.num.natAbs/q.den+(if q<0/\q.num.natAbs%q.den≠0 then 1 else 0))=q.floor:=by
  conv=>rhs;rw[Rat.floor_def,nU q]
  unfold j2;by_cases h:q<0
  ·simp only[h,decide_true,if_true,true_and];rw[Int.neg_ediv];by_cases a:q.num.natAbs%q.den=0
   ·have b:(q.den:Int)∣(q.num.natAbs:Int):=Int.natCast_dvd_natCast.2 (Nat.dvd_of_mod_eq_zero a);simp[a,b]
   ·have b:¬(q.den:Int)∣(q.num.natAbs:Int):=λh=>a (Nat.mod_eq_zero_of_dvd (Int.natCast_dvd_natCast.1 h));grind
  ·simp[h]
 rw[e];exact Rat.mkRat_one _
theorem Um(a:dQ X)(n:ck pm H){v:Value}{q:Rat}{k:Nat}(h:gC H v q)(e:aV q k)(av:k<67108864):
 Call X pm F.nW [v] H λr ab=>bx pm H ab/\ht ab r (q.floor:Rat):=by
 refine Call.has a.nW rfl ?_;have o:=WA q;have f:q.num.natAbs/q.den<4294967296^k:=dk (lA _ _) e.1;have l:1<4294967296^(k+1):=Nat.one_lt_pow (by omega) (by omega);simp[-nX];refine al.of (oi a n h) ?_;rintro _ _ ⟨j,_,_,rfl,n,p⟩;simp[-nX];refine al.of (GA a j.ok n p e.1 e.2 (by omega) q.den_nz) ?_;rintro _ m ⟨c,_,_,rfl,g,s⟩;have t:=j.trans c
 have i:∀{d:ae} {L:bn} {p:Value} {n:Nat},bx pm m d->cr d p n->n<4294967296^(k+1)->hj (decide (q<0)) n 1=(q.floor:Rat)->aF 3 L=some (.bool (decide (q<0)))->aF 6 L=some p->
  wp X pm (.code nX) L d [] λx j ab=>(x=.normal∨x=.ret)/\∃h,kn j ab [.slot 2]=some h/\(bx pm H ab/\ht ab (iw h) (q.floor:Rat)):=by
  intro d L p n h k n p j r;simp[j,r];refine al.of (wV a h.ok) ?_;rintro _ _ ⟨j,r⟩;simp;refine al.of (xM a j.ok (neg:=decide (q<0)) (k.u h.ok j) r n l (by omega)) ?_;rintro _ _ ⟨k,n⟩;simp;rw[<-p];exact⟨(t.trans h).trans (j.trans k),n⟩
 by_cases b:q<0
 ·simp[b,-nX];refine al.of (tP a s (dk (Nat.mod_le _ _) e.1) (by omega)) ?_;rintro _ m ⟨rfl,rfl⟩;by_cases e:q.num.natAbs%q.den=0
  ·simp[e,-nX];exact i (bx.refl c.ok) g (lv f (by omega)) (by grind) (by simp[b]) (by simp)
  ·simp[e,-nX];refine al.of (wV a c.ok) ?_;rintro _ d ⟨d,h⟩;simp[-nX];refine al.of (E1 a d.ok (g.u c.ok d) h (lv f (rQ k)) l (by omega)) ?_;rintro _ _ ⟨a,h⟩;simp[-nX];refine i (d.trans a) h ?_ (by simpa [b,e]using o) (by simp[b]) (by simp);grind
 ·simp[b,-nX];refine al.not ?_;simp[-nX];exact i (bx.refl c.ok) g (lv f (by omega)) (by grind) (by simp[b]) (by simp)
end
end Go.Dam.C
namespace Go.Dam.C
open Go Go.Dam Go.RowKit
instance:bL:=⟨λ_=>True⟩
def xO:Array Value:=(Lib.pow10Tab.map λz=>Value.int .u64 z).toArray
def qX(w:World)(N:Nat->Prop)(b o:Nat)(l:List Value):Prop:=N b/\∃c e a,w.heap[b]? = some (.cells c e a)/\o+l.length<=c.size/\∀i v,l[i]? = some v->c[o+i]? = some v
def vH(w:World)(N:Nat->Prop)(s:Value)(an:List Nat):Prop:=
 dK an/\((s=.slice none 0 0/\an=[])∨(∃a,s=.slice (some a) 0 0/\an=[])∨∃c o a,s=.slice (some ⟨c,o,none⟩) an.length a/\an.length<=a/\qX w N c o (cq an))
def tX(w:World)(N:Nat->Prop)(v:Value)(n:Nat):Prop:=
 (v=.pointer none/\n=0)∨∃b o s a,v=.pointer (some ⟨b,o,none⟩)/\qX w N b o [s]/\vH w N s a/\strip a=a/\aN a=n
def sJ(w:World)(N:Nat->Prop)(v:Value)(q:Rat):Prop:=
 (v=.pointer none/\q=0)∨∃b o p d,v=.pointer (some ⟨b,o,none⟩)/\qX w N b o [.bool (decide (q<0)),p,d]/\tX w N p q.num.natAbs/\tX w N d q.den
section
variable{w ay:World}{N oh:Nat->Prop}
theorem qX.mono{b o:Nat}{l:List Value}(h:qX w N b o l)(g:∀c,N c->c<w.heap.size->oh c/\ay.heap[c]? = w.heap[c]?):qX ay oh b o l:=by
 obtain⟨b,c,e,d,a,f⟩:=h;obtain⟨i,j⟩:=g _ b (gT.1 a).1;exact⟨i,c,e,d,j.trans a,f⟩
theorem vH.mono{s:Value}{an:List Nat}(h:vH w N s an)(g:∀c,N c->c<w.heap.size->oh c/\ay.heap[c]? = w.heap[c]?):vH ay oh s an:=
 ⟨h.1,h.2.imp id (Or.imp id λ⟨c,o,a,b,d,e⟩=>⟨c,o,a,b,d,e.mono g⟩)⟩
theorem tX.mono{v:Value}{n:Nat}(h:tX w N v n)(g:∀c,N c->c<w.heap.size->oh c/\ay.heap[c]? = w.heap[c]?):tX ay oh v n:=
 h.imp id λ⟨b,o,s,a,c,d,e,f⟩=>⟨b,o,s,a,c,d.mono g,e.mono g,f⟩
theorem sJ.mono{v:Value}{q:Rat}(h:sJ w N v q)(g:∀c,N c->c<w.heap.size->oh c/\ay.heap[c]? = w.heap[c]?):sJ ay oh v q:=
 h.imp id λ⟨b,o,p,d,a,e,f,i⟩=>⟨b,o,p,d,a,e.mono g,f.mono g,i.mono g⟩
end
def ks:cy where
 rel:=λw N b o=>o=.nat 0/\N b/\∃e a,w.heap[b]? = some (.cells xO e a)
 vh:=λ⟨c,b,e,a,d⟩ h=>⟨c,(h _ b).1,e,a,((h _ b).2).trans d⟩
def gN:cy where
 rel:=λw N b o=>match o with
  | .nat n=>n=0/\N b/\∃e a,w.heap[b]? = some (.cells xO e a)
  | .iZ q=>sJ w N (.pointer (some ⟨b,0,none⟩)) q
 vh:=λ{w _ N _ b o} h g=>by
  cases o with
  | nat _=>grind
  | iZ _=>exact sJ.mono h λc a _=>g c a
structure In(O:cy)(N:Nat->Prop)(W:World)(γ:aT)(H:ae):Prop where
 rel:Rel O 0 γ H W
 ro:∀b,¬fL (H.get b)
 y9:∃L,γ 1=some L/\L.bj=1/\L.d=0
 ep:H.get 1=some (.cf (.nat 0))
 n:∀b L,γ b=some L->N L.bj
 F5:∃c e WK,W.heap[1]? = some (.cells c e WK)
def Ext(H ab:ae):Prop:=∀b y,H.get b=some y->ab.get b=some y
theorem Ext.refl(H:ae):Ext H H:=λ_ _ h=>h
theorem Ext.trans{H ab a:ae}(h:Ext H ab)(g:Ext ab a):Ext H a:=λb y e=>g b y (h b y e)
theorem dh.le{H ab:ae}{v:Value}{an:List Nat}(h:dh H v an)(aY:Ext H ab):dh ab v an:=by
 refine⟨h.1,h.2.imp id ?_⟩;rintro⟨c,a,b,y,d,e,f,g⟩;exact⟨c,a,b,y,d,e,aY _ _ f,g⟩
theorem cr.le{H ab:ae}{v:Value}{n:Nat}(h:cr H v n)(aY:Ext H ab):cr ab v n:=⟨h.ex.imp λ_ q=>⟨q.1.imp id (by
 rintro⟨b,x,s,a,c,d,e⟩;exact⟨b,x,s,a,aY _ _ c,d,e.le aY⟩),q.2⟩⟩
theorem gC.le{H ab:ae}{v:Value}{q:Rat}(h:gC H v q)(aY:Ext H ab):gC ab v q:=by
 refine⟨h.ex.imp id ?_⟩;rintro⟨b,x,a,c,d,e,f,g,i⟩;exact⟨b,x,a,c,d,aY _ _ e,f,g.le aY,i.le aY⟩
section
variable{O:cy}{N:Nat->Prop}{W:World}{γ:aT}{H:ae}
def HW:Dam.Loc:=⟨1,0,0,0⟩
def pz:aT:=λb=>if b=1 then some HW else none
def A2:ae:=⟨(b6.ag:b6 bz).set (.cf (.nat 0)) 1,2⟩
theorem nm{b:Nat}{L:Dam.Loc}(h:pz b=some L):b=1/\L=HW:=by
 unfold pz at h;grind
theorem uC(b:Nat):A2.get b=if b=1 then some (.cf (.nat 0)) else none:=by
 show((b6.ag:b6 bz).set (.cf (.nat 0)) 1).get b=_;rw[b6.lS];rfl
theorem aaH(c:∀N:Nat->Prop,N 1->O.rel W N 1 (.nat 0))(d:1<W.heap.size):Rel O 0 pz A2 W:=by
 refine⟨λb L h=>?_,λb L h=>?_,λb h=>?_,λb _ L _ h _ r _ _=>?_,λb L h r=>?_,Nat.zero_le _⟩
 ·obtain⟨rfl,rfl⟩:=nm h;refine⟨.cf (.nat 0),by rw[uC,aL rfl],?_⟩;have a:gY pz A2 W 1:=⟨d,λb L h r=>by
   obtain⟨rfl,_⟩:=nm h;rw[uC,aL rfl]at r;exact r.elim⟩
  exact⟨a,rfl,c _ a⟩
 ·obtain⟨rfl,_⟩:=nm h;show 1<2;omega
 ·rw[uC,aw];have:2<=b:=h;omega
 ·obtain⟨rfl,_⟩:=nm h;rw[uC,aL rfl]at r;exact r.elim
 grind
theorem In.start(d:∀M:Nat->Prop,M 1->O.rel W M 1 (.nat 0)){c:Array Value}{e:TypeId}{a:Nat×Nat}(b:W.heap[1]? = some (.cells c e a))(f:N 1):In O N W pz A2:=
 ⟨aaH d (gT.1 b).1,λg h=>by rw[uC]at h;split at h<;>exact h.elim,⟨HW,rfl,rfl,rfl⟩,by rfl,λg _ h=>by obtain⟨_,rfl⟩:=nm h;exact f,c,e,a,b⟩
theorem In.add(h:In O N W γ H){l aU:List Value}{b o:Nat}(i:qX W N b o aU)(n:bN γ l aU):
 In O N W (γ.set H.next ⟨b,o,0,0⟩) (H.new (.ro l))/\γ.le (γ.set H.next ⟨b,o,0,0⟩)/\Ext H (H.new (.ro l)):=by
 obtain⟨s,d,t,u,i,v,f⟩:=i;have j:=h.rel.Qa ⟨b,o,0,0⟩;have q:H.get H.next=none:=h.rel.new _ (bc _);have g:∀b,(H.new (.ro l)).get b=if b=H.next then some (.ro l) else H.get b:=λb=>ae.mw H b _
 have k:∀b,¬fL ((H.new (.ro l)).get b):=λb=>by
  rw[g];split
  ·exact λh=>h.elim
  ·exact h.ro b
 have p:∀d,d<W.heap.size->gY (γ.set H.next ⟨b,o,0,0⟩) (H.new (.ro l)) W d:=λd f=>⟨f,λb L _ r=>(k b r).elim⟩;obtain⟨w,q,x,y⟩:=h.y9;have m:(1:Nat)≠H.next:=λe=>by have:=h.rel.lt 1 _ q;omega
 refine⟨⟨⟨λc L a=>?_,λc L a=>?_,λc a=>?_,λb _ _ _ _ _ r _ _=>(k b r).elim,λb _ _ r=>(k b r).elim,Nat.zero_le _⟩,k,⟨w,j _ _ q,x,y⟩,?_,λc L a=>?_,h.F5⟩,j,λb _ e=>?_⟩
 ·by_cases e:c=H.next
  ·subst e;rw[aT.gU]at a;cases a;refine⟨.ro l,by rw[g,aL rfl],p _ (gT.1 i).1,d,t,u,i,rfl,by rw[n.length];exact v,λi _ e=>?_⟩;obtain⟨b,h,r⟩:=n.get e;exact⟨b,f i b h,r.mono j⟩
  ·rw[aT.iu _ _ e]at a;obtain⟨x,m,b⟩:=h.rel.bj c L a;exact⟨x,by rw[g,aw e];exact m,b.mono j (λd f=>⟨p d f.1,rfl⟩) (λ_=>rfl)⟩
 ·show c<H.next+1;by_cases e:c=H.next
  ·omega
  ·rw[aT.iu _ _ e]at a;have:=h.rel.lt c L a;omega
 ·have a:H.next+1<=c:=a;rw[g,aw (by omega)];exact h.rel.new c (by omega)
 ·rw[g,aw m];exact h.ep
 ·by_cases e:c=H.next
  ·subst e;rw[aT.gU]at a;cases a;exact s
  ·rw[aT.iu _ _ e]at a;exact h.n c L a
 grind
theorem aca(an:List Nat):bN γ (cq an) (cq an):=bN.rF rfl λi _ _ a b=>by
 rw[a]at b;cases b;simp only[cq,jd]at a
 cases e:an[i]? with
 | none=>grind
 | some _=>rw[e]at a;simp only[hK,aJ]at a;subst a;exact .int _ _
theorem In.We(h:In O N W γ H){s:Value}{an:List Nat}(g:vH W N s an):∃a ab d,In O N W a ab/\γ.le a/\Ext H ab/\aO a d s/\dh ab d an:=by
 obtain⟨e,⟨rfl,rfl⟩ | ⟨_,rfl,rfl⟩ | ⟨c,o,cap,rfl,f,i⟩⟩:=g
 ·exact⟨γ,H,_,h,.refl _,.refl _,.r1,dh.nil⟩
 ·obtain⟨L,d,g,_⟩:=h.y9;have a:=h.n 1 L d;rw[g]at a;obtain⟨c,d,g,j⟩:=h.F5;obtain⟨k,m,n⟩:=h.add (l:=[]) (aU:=[]) (b:=1) (o:=0) ⟨a,c,d,g,j,by simp,by simp⟩ .nil;exact⟨_,_,.slice (some ⟨H.next,0,none⟩) 0 0,k,m,n,.nc (aT.gU _ _ _),e,.inr ⟨H.next,0,0,_,[],rfl,cc,.inr rfl,rfl,by simp,by simp,trivial⟩⟩
 ·obtain⟨a,d,g⟩:=h.add (l:=cq an) i (aca an);refine⟨_,_,.slice (some ⟨H.next,0,none⟩) an.length cap,a,d,g,?_,e,.inr ⟨H.next,0,cap,_,cq an,rfl,cc,.inr rfl,by rw[List.drop_zero];exact qn (by simp[cq]),by simp[cq],f,trivial⟩⟩;have:=aO.gV (γ:=γ.set H.next ⟨c,o,0,0⟩) (b:=H.next) (off:=0) (n:=an.length) (cap:=cap) (dm:=cap) (L:=⟨c,o,0,0⟩) (aT.gU _ _ _) (bc _) f (.inl rfl);grind
theorem IS{c o:Nat}:aO (γ.set H.next ⟨c,o,0,0⟩) (.pointer (some ⟨H.next,0,none⟩)) (.pointer (some ⟨c,o,none⟩)):=by
 have:=aO.ptr (γ:=γ.set H.next ⟨c,o,0,0⟩) (b:=H.next) (off:=0) (L:=⟨c,o,0,0⟩) (aT.gU _ _ _);grind
theorem In.nat(h:In O N W γ H){v:Value}{n:Nat}(c:tX W N v n):∃a ab p,In O N W a ab/\γ.le a/\Ext H ab/\aO a p v/\cr ab p n:=by
 obtain⟨rfl,rfl⟩ | ⟨_,_,_,d,rfl,e,f,g,i⟩:=c
 ·exact⟨γ,H,_,h,.refl _,.refl _,.zF,⟨[],.inl ⟨rfl,rfl⟩,rfl,rfl⟩⟩
 ·obtain⟨_,c,a,j,k,m,n,o⟩:=h.We f;obtain⟨f,p,b⟩:=j.add (l:=[a]) e (.cons n .nil);exact⟨_,_,_,f,k.trans p,m.trans b,IS,⟨d,.inr ⟨c.next,_,a,rfl,cc,⟨rfl,rfl⟩,o.le b⟩,g,i⟩⟩
theorem In.iZ(h:In O N W γ H){v:Value}{q:Rat}(a:sJ W N v q):∃b ab p,In O N W b ab/\γ.le b/\Ext H ab/\aO b p v/\gC ab p q:=by
 obtain⟨rfl,rfl⟩ | ⟨_,_,p,_,rfl,g,d,a⟩:=a
 ·exact⟨γ,H,_,h,.refl _,.refl _,.zF,⟨.inl ⟨rfl,rfl⟩⟩⟩
 ·obtain⟨_,_,b,i,j,k,m,n⟩:=h.nat d;obtain⟨_,o,d,p,e,f,r,s⟩:=i.nat a;obtain⟨a,i,c⟩:=p.add (l:=[.bool (decide (q<0)),b,d]) g (.cons (.bool _) (.cons (m.mono e) (.cons r .nil)));exact⟨_,_,_,a,(j.trans e).trans i,(k.trans f).trans c,IS,⟨.inr ⟨o.next,_,b,d,rfl,cc,⟨rfl,rfl⟩,n.le (f.trans c),s.le c⟩⟩⟩
end
section
variable{O:cy}{base:Nat}{N:Nat->Prop}{w:World}{γ:aT}{H:ae}
theorem aaO(d:Rel O base γ H w)(e:∀b L,γ b=some L->N L.bj){b:Nat}{L:Dam.Loc}{x:bz}{a:List Value}(c:γ b=some L)(f:H.get b=some x)(g:rowOf x=some a){off:Nat}{l aU:List Value}
 (aY:(a.drop off).take l.length=l) (b:off+l.length<=a.length) (b:∀(i:Nat) (v aQ:Value),l[i]? = some v->aO γ v aQ->aU[i]? = some aQ) (b:aU.length=l.length):qX w N L.bj (L.d+off) aU:=by
 obtain⟨b,h,j,k,_,m⟩:=d.row c f g;refine⟨e _ _ c,b,h,j,k,by omega,λi v b=>?_⟩;have c:=(hZ.1 b).1;have b:a[off+i]? = some (l[i]'(by omega)):=by
  have:=congrArg (·[i]?) aY;simp only[jY (show i<l.length by omega),jZ]at this;rw[this,en]
 obtain⟨aQ,_,_⟩:=m _ _ b;grind
theorem dh.out(f:Rel O base γ H w)(g:∀b L,γ b=some L->N L.bj){s c:Value}{an:List Nat}(h:dh H s an)(d:aO γ s c):vH w N c an:=by
 obtain⟨a,⟨rfl,rfl⟩ | ⟨_,b,_,_,_,rfl,i,j,_,_,_,_⟩⟩:=h
 ·cases d;exact⟨a,.inl ⟨rfl,rfl⟩⟩
 ·obtain⟨L,h,_,_,⟨k,rfl,_,_⟩ | ⟨m,_,n,rfl⟩⟩:=d.pf
  ·have c:(cq an).length=an.length:=by simp[cq]
   refine⟨a,.inr (.inr ⟨L.bj,L.d+b,k,rfl,by omega,aaO f g h i j.row (l:=cq an) (by grind) (by omega) (λo _ _ e r=>?_) rfl⟩)⟩;rw[e];simp only[cq,jd]at e
   cases p:an[o]? with
   | none=>grind
   | some _=>rw[p]at e;simp only[hK,aJ]at e;subst e;rw[r.fa]
  ·exact⟨a,.inr (.inl ⟨n,rfl,I1 m⟩)⟩
theorem cr.TG(a:Rel O base γ H w)(c:∀b L,γ b=some L->N L.bj){v aQ:Value}{n:Nat}(h:cr H v n)(d:aO γ v aQ):tX w N aQ n:=by
 obtain⟨f,⟨rfl,rfl⟩ | ⟨b,_,s,rfl,g,i,j⟩,k,e⟩:=h.ex
 ·cases d;exact .inl ⟨rfl,e.symm⟩
 ·obtain⟨L,b,_,rfl⟩:=d.lZ;obtain⟨h,l,m,n,o,d⟩:=a.row b g i.1;obtain⟨p,_,q⟩:=d 0 s rfl;refine .inr ⟨L.bj,L.d+0,p,f,rfl,⟨c _ _ b,h,l,m,n,by simpa using o,λ_ _ _=>?_⟩,j.out a c q,k,e⟩;grind
theorem ht.out(a:Rel O base γ H w)(d:∀b L,γ b=some L->N L.bj){v aQ:Value}{q:Rat}(h:ht H v q)(o:aO γ v aQ):∃c L b,aQ=.pointer (some ⟨c,0,none⟩)/\γ b=some L/\L.bj=c/\fL (H.get b)/\sJ w N aQ q:=by
 obtain⟨h,b,_,_,rfl,e⟩:=h;obtain⟨f,_⟩ | ⟨b,_,_,_,f,j,p,q,r⟩:=h.ex
 ·cases f
 cases f;rw[e]at j;cases j;have k:=p.1;simp only[rowOf,aJ]at k;subst k;obtain⟨L,g,_,rfl⟩:=o.lZ;obtain⟨_,l,s⟩:=a.bj b L g;rw[e]at l;cases l;obtain⟨c,t,u,v,_,⟨_,_,w,_⟩,_,_,i⟩:=s;obtain⟨_,m,x⟩:=i 0 _ rfl;obtain⟨y,z,A⟩:=i 1 _ rfl;obtain⟨B,C,D⟩:=i 2 _ rfl;rw[x.mo]at m;simp only[w,Nat.zero_add]at m z C|-;refine⟨L.bj,L,b,rfl,g,rfl,by rw[e];trivial,.inr ⟨L.bj,0,y,B,rfl,⟨d _ _ g,c,t,u,v,by grind,λn _ E=>?_⟩,q.TG a d A,r.TG a d D⟩⟩;rw[Nat.zero_add]
 rcases n with _ | _ | _ | n
 ·grind
 ·grind
 ·grind
 ·simp at E
end
end Go.Dam.C
namespace Go.Dam.C
open Go Go.Dam
theorem abx{p q:Rat}{k:Nat}(a:aV p k)(b:aV q k):aV (p+q) (2*k+1):=by
 have e:p+q=mkRat (p.num*q.den+q.num*p.den) (p.den*q.den):=Rat.add_def' p q;have c:p.den*q.den≠0:=ti p.den_nz q.den_nz;rw[e,<-zK c,zS];refine⟨dk (zJ _ _) ?_,dk (lA _ _) (lv (lY a.2 b.2) (by omega))⟩;refine dk (Int.natAbs_add_le _ _) ?_;rw[o8,o8];exact C7 (lY a.1 b.2) (lY b.1 a.2)
theorem aby{p q:Rat}{k:Nat}(a:aV p k)(b:aV q k):aV (p*q) (2*k):=by
 have e:p*q=mkRat (p.num*q.num) (p.den*q.den):=Rat.mul_def' p q;have c:p.den*q.den≠0:=ti p.den_nz q.den_nz;rw[e,<-zK c,zS];refine⟨dk (zJ _ _) ?_,dk (lA _ _) (lY a.2 b.2)⟩;rw[o8];exact lY a.1 b.1
theorem Ti{q:Rat}{k:Nat}(a:aV q k)(aP:q≠0):aV (1/q) k:=by
 rw[Pz aP];simp only[Rat.num_ofNat,Rat.den_ofNat];have b:q.num.natAbs≠0:=λ_=>aP (Rat.num_eq_zero.1 (by omega));refine Tj ?_ ?_ ?_
 ·simpa using a.2
 ·simpa using a.1
 ·simpa using b
theorem dY{q:Rat}{k j:Nat}(a:aV q k)(h:k<=j):aV q j:=⟨lv a.1 h,lv a.2 h⟩
theorem xN{p q:Rat}{k:Nat}(a:aV p k)(b:aV q k):aV (p-q) (2*k+1):=by rw[Rat.sub_eq_add_neg];exact abx a (r2 b)
theorem DV{p q:Rat}{k:Nat}(a:aV p k)(b:aV q k)(aP:q≠0):aV (p/q) (2*k):=by
 have:p/q=p*(1/q):=by grind
 rw[this];exact aby a (Ti b aP)
theorem vi{p q:Rat}{a b:Nat}(c:aV p a)(d:aV q b):aV (p+q) (a+b+1):=by
 have f:p+q=mkRat (p.num*q.den+q.num*p.den) (p.den*q.den):=Rat.add_def' p q;have g:p.den*q.den≠0:=ti p.den_nz q.den_nz;have a:=xo c.1 d.2;have b:=xo c.2 d.1;have e:=xo c.2 d.2;rw[<-hG]at a b e;rw[f,<-zK g,zS];refine⟨dk (zJ _ _) ?_,dk (lA _ _) (lv e (by omega))⟩;refine dk (Int.natAbs_add_le _ _) ?_;rw[o8,o8];refine C7 a ?_;rw[eZ];exact b
theorem jk{p q:Rat}{a b:Nat}(c:aV p a)(d:aV q b):aV (p*q) (a+b):=by
 have e:p*q=mkRat (p.num*q.num) (p.den*q.den):=Rat.mul_def' p q;have a:p.den*q.den≠0:=ti p.den_nz q.den_nz;rw[e,<-zK a,zS,aV,hG];refine⟨dk (zJ _ _) ?_,dk (lA _ _) (xo c.2 d.2)⟩;rw[o8];exact xo c.1 d.1
theorem Tk{p q:Rat}{a b:Nat}(c:aV p a)(d:aV q b):aV (p-q) (a+b+1):=by rw[Rat.sub_eq_add_neg];exact vi c (r2 d)
theorem qB{k:Nat} (av:1<=k:=by decide):aV 0 k:=by
 have:4294967296^1<=4294967296^k:=hX (by decide) av;exact⟨by show 0<_;omega,by show 1<_;omega⟩
def gZ:Nat:=60000000
def wF(n k:Nat):Bool:=Nat.blt n.log2 (32*k)
theorem Qn{n k:Nat}(h:wF n k=true)(_:1<=k):n<4294967296^k:=by
 unfold wF at h;rw[hE,cP]at h;rw[show(4294967296:Nat)=2^32 from rfl,<-qm];by_cases a:n=0
 ·subst a;exact u6 (by decide)
 ·exact(Nat.log2_lt a).1 h
theorem Qg{n k:Nat}(h:n<4294967296^k)(av:1<=k):wF n k=true:=by
 unfold wF;rw[hE,cP];by_cases a:n=0
 ·subst a;simp;omega
 ·rw[Nat.log2_lt a,qm];exact h
def bo(q:Rat):Bool:=wF q.num.natAbs gZ&&wF q.den gZ
theorem bo.aV{q:Rat}(h:bo q=true):aV q gZ:=by
 unfold bo at h;rw[bK]at h;exact⟨Qn h.1 (by decide),Qn h.2 (by decide)⟩
theorem aV.bo{q:Rat}{k:Nat}(h:aV q k)(av:k<=gZ):bo q=true:=by
 have h:=dY h av;unfold C.bo;rw[bK];exact⟨Qg h.1 (by decide),Qg h.2 (by decide)⟩
end Go.Dam.C
namespace Go.Dam.C
open Go Go.Dam
def nJ(H:ae)(v:Value):Option Rat:=match v with
 | .pointer none=>some 0
 | .pointer (some ⟨b,0,none⟩)=>(match H.get b with
   | some (.cf (.iZ q))=>some q
   | _=>none)
 | _=>none
inductive gF where
 | dr (q:Rat)
 | val (v:Value)
 | no
 | yes (q:Rat)
def gF.out(H:ae):gF->Value×ae
 | .dr q=>(.pointer (some ⟨H.next,0,none⟩),H.new (.cf (.iZ q)))
 | .val v=>(v,H)
 | .no=>(.tuple #[.pointer none,.bool false],H)
 | .yes q=>(.tuple #[.pointer (some ⟨H.next,0,none⟩),.bool true],H.new (.cf (.iZ q)))
def dn(r:List Value->ae->Option gF):sF:=λ_ a H=>bif my H then(match r a H with
 | some r=>some (r.out H)
 | none=>none) else none
def l7(f:Rat->gF)(args:List Value)(H:ae):Option gF:=match args with
 | [a]=>(match nJ H a with
   | some p=>bif bo p then some (f p) else none
   | none=>none)
 | _=>none
def l8(f:Rat->Rat->gF)(args:List Value)(H:ae):Option gF:=match args with
 | [a,b]=>(match nJ H a with
   | some p=>(match nJ H b with
     | some q=>bif bo p&&bo q then some (f p q) else none
     | none=>none)
   | none=>none)
 | _=>none
def iF(p q:Rat):Int:=if p<q then -1 else if p=q then 0 else 1
def cg(q:Rat):Int:=if q<0 then -1 else if q=0 then 0 else 1
def z1(args:List Value)(_:ae):Option gF:=match args with
 | [.int .i64 n]=>bif decide (-9223372036854775808<=n)&&decide (n<=9223372036854775807) then some (.dr (n:Rat)) else none
 | _=>none
def xr(args:List Value)(_:ae):Option gF:=match args with
 | [.string s]=>bif Nat.blt s.size 1000000 then some (match gq s.data.toList with
   | some q=>.yes q
   | none=>.no) else none
 | _=>none
def Df:=l8 λp q=>.dr (p+q)
def Dm:=l8 λp q=>.dr (p-q)
def Dj:=l8 λp q=>.dr (p*q)
def Dh:=l8 λp q=>if q=0 then .no else .yes (p/q)
def Dg:=l8 λp q=>.val (.int .i64 (iF p q))
def Dk:=l7 λq=>.dr (-q)
def Dl:=l7 λq=>.val (.int .i64 (cg q))
def Di:=l7 λq=>.dr (q.floor:Rat)
def Dp:=l7 λq=>.val (.bool (decide (q.den=1)))
def Dn:=l7 λq=>.val (ak (bk q))
def y6(_:Perm)(args:List Value)(H:ae):Option (Value×ae):=match args with
 | []=>bif my H then some (.bool true,H) else none
 | _=>none
structure EL(X:aA):Prop where
 Q5:X.gv F.hF=some (dn z1)
 HP:X.gv F.jc=some (dn xr)
 QZ:X.gv F.hV=some (dn Df)
 Q7:X.gv F.kV=some (dn Dm)
 Q3:X.gv F.im=some (dn Dj)
 Q1:X.gv F.lx=some (dn Dh)
 Q0:X.gv F.hr=some (dn Dg)
 Q4:X.gv F.kU=some (dn Dk)
 Q6:X.gv F.fb=some (dn Dl)
 Q2:X.gv F.nW=some (dn Di)
 Q9:X.gv F.l1=some (dn Dp)
 Q8:X.gv F.hW=some (dn Dn)
structure bl(pm:Perm)(H:ae):Prop extends ck pm H where
 ep:Tab H
structure aC(pm:Perm)(n:Nat)(H ab:ae):Prop where
 q:bl pm ab
 next:H.next<=ab.next
 get:∀b,b<n->ab.get b=H.get b
 cf:∀b o,H.get b=some (.cf o)->ab.get b=some (.cf o)
abbrev K(pm:Perm)(H ab:ae):Prop:=aC pm H.next H ab
variable{X:aA}{pm cu:Perm}{H ab bX ai:ae}{n m:Nat}
theorem bl.lt(g:bl pm H){b:Nat}{x:bz}(e:H.get b=some x):b<H.next:=g.tock.lt e
theorem bl.may(g:bl pm H){b:Nat}(h:H.next<=b):pm.may b=true:=g.tock.may h
theorem bl.perm(g:bl pm H)(b7:cu.num=none)(cH:cu.ah<=H.next):bl cu H:=⟨⟨b7,cH,g.wf,g.new⟩,g.ep⟩
theorem bl.make(g:bl pm H)(Ut:ae)(x:bz):pm.make Ut x=Ut.new x:=g.tock.make Ut x
theorem bl.pick(g:bl pm H)(Ut:ae):pm.pick Ut=Ut.next:=g.tock.pick Ut
theorem aC.refl(g:bl pm H):aC pm n H H:=⟨g,bc _,λ_ _=>rfl,λ_ _ h=>h⟩
theorem aC.mono(u:aC pm n H ab)(h:m<=n):aC pm m H ab:=⟨u.q,u.next,λb a=>u.get b (fK a h),u.cf⟩
theorem aC.trans(u:aC pm n H ab)(v:aC pm n ab bX):aC pm n H bX:=⟨v.q,a8 u.next v.next,λb a=>(v.get b a).trans (u.get b a),λb o h=>v.cf b o (u.cf b o h)⟩
theorem aC.k(u:aC pm n H ab)(v:K pm ab bX)(h:n<=ab.next):aC pm n H bX:=u.trans (v.mono h)
theorem K.trans(u:K pm H ab)(v:K pm ab bX):K pm H bX:=aC.k u v u.next
theorem aC.perm(u:aC pm n H ab)(b7:cu.num=none)(cH:cu.ah<=ab.next):aC cu n H ab:=⟨u.q.perm b7 cH,u.next,u.get,u.cf⟩
theorem K.refl(g:bl pm H):K pm H H:=aC.refl g
theorem K.some(k:K pm H ab)(g:bl pm H){b:Nat}{x:bz}(e:H.get b=some x):ab.get b=some x:=(k.get b (g.lt e)).trans e
theorem aC.new(u:aC pm n H ab)(h:n<=ab.next)(x:bz):aC pm n H (ab.new x) where
 q:=⟨⟨u.q.num,a8 u.q.ah (rQ _),λb a=>by
  have a:ab.next+1<=b:=a;rw[ae.mw,aw (by omega)];exact u.q.wf b (by omega),λb a=>trivial⟩,by
  have:=u.q.lt u.q.ep;show(ab.new x).get 1=_;rw[ae.mw,aw (by omega)];exact u.q.ep⟩
 next:=a8 u.next (rQ _)
 get:=λb a=>by rw[ae.mw,aw (by omega)];exact u.get b a
 cf:=λb o e=>by
  have e:=u.cf b o e;have:=u.q.lt e;rw[ae.mw,aw (by omega)];exact e
theorem K.new(g:bl pm H)(x:bz):K pm H (H.new x):=aC.new (.refl g) (bc _) x
theorem aC.put(u:aC pm n H ab){c:Nat}{y:bz}(h:n<=c)(a':ab.get c=some y)(d:∀o,y≠.cf o)(x:bz):aC pm n H (ab.put c x) where
 q:=⟨⟨u.q.num,u.q.ah,λb a=>by
  have a:ab.next<=b:=a;have:=u.q.lt a';rw[ae.eP,aw (by omega)];exact u.q.wf b a,λb a=>trivial⟩,by
  show(ab.put c x).get 1=_;rw[ae.eP,aw]
  ·exact u.q.ep
  ·rintro rfl;rw[u.q.ep]at a';cases a';exact d _ rfl⟩
 next:=u.next
 get:=λb a=>by rw[ae.eP,aw (by omega)];exact u.get b a
 cf:=λb o e=>by
  have e:=u.cf b o e;rw[ae.eP,aw]
  ·exact e
  ·rintro rfl;rw[e]at a';cases a';exact d _ rfl
theorem aC.up(u:aC pm n H ab)(k:Nat):aC pm n H (ab.up k) where
 q:=⟨⟨u.q.num,a8 u.q.ah (gj _ _),λb a=>u.q.wf b (a8 (gj _ _) a),λ_ _=>trivial⟩,u.q.ep⟩
 next:=a8 u.next (gj _ _)
 get:=u.get
 cf:=u.cf
def b4(H:ae)(v:Value)(q:Rat):Prop:=∃b,v=.pointer (some ⟨b,0,none⟩)/\H.get b=some (.cf (.iZ q))
theorem b4.up{v:Value}{q:Rat}(h:b4 H v q)(u:aC pm n H ab):b4 ab v q:=let ⟨b,a,c⟩:=h;⟨b,a,u.cf b _ c⟩
theorem b4.of{v:Value}{q:Rat}(h:b4 H v q):nJ H v=some q:=by
 obtain⟨_,rfl,a⟩:=h;simp only[nJ,a]
theorem lT(h:Tab H):my H=true:=by unfold my;rw[h];rfl
theorem b4.new{q:Rat}:b4 (H.new (.cf (.iZ q))) (.pointer (some ⟨H.next,0,none⟩)) q:=⟨_,rfl,cc⟩
section
variable(gO:EL X)(g:bl pm H){v w:Value}{p q:Rat}(b7:nJ H v=some p)(cH:nJ H w=some q)(s1:bo p=true)(s2:bo q=true)
include g gO
theorem ml{n:Int}(aP:-9223372036854775808<=n)(b7:n<=9223372036854775807):Call X pm F.hF [.int .i64 n] H λr ab=>K pm H ab/\b4 ab r (n:Rat):=
 Call.over gO.Q5 (v:=.pointer (some ⟨H.next,0,none⟩)) (ab:=H.new (.cf (.iZ n))) (by simp[dn,lT g.ep,z1,aP,b7,gF.out]) ⟨K.new g _,.new⟩
theorem qS{l:List UInt8}(aY:l.length<1000000):Call X pm F.jc [ak l] H λr ab=>K pm H ab/\(gq l=none/\r=.tuple #[.pointer none,.bool false]∨∃q p,gq l=some q/\r=.tuple #[p,.bool true]/\b4 ab p q):=by
 cases e:gq l with
 | none=>exact Call.over gO.HP (v:=.tuple #[.pointer none,.bool false]) (ab:=H) (by simp[dn,lT g.ep,xr,e,aY,gF.out,hE]) ⟨K.refl g,.inl ⟨rfl,rfl⟩⟩
 | some q=>exact Call.over gO.HP (v:=.tuple #[.pointer (some ⟨H.next,0,none⟩),.bool true]) (ab:=H.new (.cf (.iZ q))) (by simp[dn,lT g.ep,xr,e,aY,gF.out,hE]) ⟨K.new g _,.inr ⟨q,_,rfl,rfl,.new⟩⟩
include b7 s1
theorem A7:Call X pm F.kU [v] H λr ab=>K pm H ab/\b4 ab r (-p):=
 Call.over gO.Q4 (v:=.pointer (some ⟨H.next,0,none⟩)) (ab:=H.new (.cf (.iZ (-p)))) (by simp[dn,lT g.ep,Dk,C.l7,b7,s1,gF.out]) ⟨K.new g _,.new⟩
theorem hA:Call X pm F.fb [v] H λr ab=>ab=H/\r=.int .i64 (cg p):=
 Call.over gO.Q6 (v:=.int .i64 (cg p)) (ab:=H) (by simp[dn,lT g.ep,Dl,C.l7,b7,s1,gF.out]) ⟨rfl,rfl⟩
theorem mn:Call X pm F.hW [v] H λr ab=>ab=H/\r=ak (bk p):=
 Call.over gO.Q8 (v:=ak (bk p)) (ab:=H) (by simp[dn,lT g.ep,Dn,C.l7,b7,s1,gF.out]) ⟨rfl,rfl⟩
include cH s2
theorem n8:Call X pm F.hV [v,w] H λr ab=>K pm H ab/\b4 ab r (p+q):=
 Call.over gO.QZ (v:=.pointer (some ⟨H.next,0,none⟩)) (ab:=H.new (.cf (.iZ (p+q)))) (by simp[dn,lT g.ep,Df,C.l8,b7,cH,s1,s2,gF.out]) ⟨K.new g _,.new⟩
theorem Be:Call X pm F.kV [v,w] H λr ab=>K pm H ab/\b4 ab r (p-q):=
 Call.over gO.Q7 (v:=.pointer (some ⟨H.next,0,none⟩)) (ab:=H.new (.cf (.iZ (p-q)))) (by simp[dn,lT g.ep,Dm,C.l8,b7,cH,s1,s2,gF.out]) ⟨K.new g _,.new⟩
theorem og:Call X pm F.im [v,w] H λr ab=>K pm H ab/\b4 ab r (p*q):=
 Call.over gO.Q3 (v:=.pointer (some ⟨H.next,0,none⟩)) (ab:=H.new (.cf (.iZ (p*q)))) (by simp[dn,lT g.ep,Dj,C.l8,b7,cH,s1,s2,gF.out]) ⟨K.new g _,.new⟩
theorem AZ(aP:q≠0):Call X pm F.lx [v,w] H λr ab=>K pm H ab/\∃x,r=.tuple #[x,.bool true]/\b4 ab x (p/q):=
 Call.over gO.Q1 (v:=.tuple #[.pointer (some ⟨H.next,0,none⟩),.bool true]) (ab:=H.new (.cf (.iZ (p/q)))) (by simp[dn,lT g.ep,Dh,C.l8,b7,cH,s1,s2,aP,gF.out]) ⟨K.new g _,_,rfl,.new⟩
theorem k7:Call X pm F.hr [v,w] H λr ab=>ab=H/\r=.int .i64 (iF p q):=
 Call.over gO.Q0 (v:=.int .i64 (iF p q)) (ab:=H) (by simp[dn,lT g.ep,Dg,C.l8,b7,cH,s1,s2,gF.out]) ⟨rfl,rfl⟩
end
end Go.Dam.C
namespace Go.Dam.C
open Go Go.Dam Go.RowKit
def gF.post:gF->Value->ae->Prop
 | .dr q,v,H=>ht H v q
 | .val u,v,_=>v=u/\plainCell u=true
 | .no,v,_=>v=.tuple #[.pointer none,.bool false]
 | .yes q,v,H=>∃p,v=.tuple #[p,.bool true]/\ht H p q
theorem aac{γ:aT}{v aQ:Value}(h:aO γ v aQ)(a:plainCell v=true):aQ=v:=by
 cases h<;>first | rfl | (simp[plainCell]at a)
theorem Pg{H:ae}(h:my H=true):H.get 1=some (.cf (.nat 0)):=by
 unfold my at h;split at h
 ·assumption
 ·cases h
theorem GU{c:Nat}{γ:aT}{H:ae}{w:World}(d:Rel gN c γ H w){a b5:Value}{p:Rat}(h:nJ H a=some p)(b:aO γ a b5):sJ w (gY γ H w) b5 p:=by
 unfold nJ at h;split at h
 ·cases b;simp only[aJ]at h;exact .inl ⟨rfl,h.symm⟩
 ·rename_i e;split at h
  ·rename_i _ f;obtain⟨L,g,_,rfl⟩:=b.lZ;obtain⟨_,a,i⟩:=d.bj e L g;rw[f]at a;cases a;obtain⟨_,j,k⟩:=i;simp only[aJ]at h;subst h;simp only[j];exact k
  ·cases h
 ·cases h
theorem Step.cf{O:cy}{p:Nat}{pm:Perm}{γ:aT}{H:ae}{w ay:World}(f:Rel O p γ H w)(e:Below w.heap.size w ay){o:A'}{c:Nat}(i:w.heap.size<=c)(u:c<ay.heap.size)
 (v:O.rel ay (λb=>b<ay.heap.size/\(gY γ H w b∨w.heap.size<=b)) c o):Step O p pm γ H w (γ.set H.next ⟨c,0,0,0⟩) (H.new (.cf o)) ay:=by
 have q:=f.Qa ⟨c,0,0,0⟩;have k:∀c,c<w.heap.size->ay.heap[c]? = w.heap[c]?:=e.block;have x:∀b L,γ b=some L->fL (H.get b)->L.bj<w.heap.size:=λb L h r=>by
  obtain⟨_,a,d⟩:=f.bj b L h;rw[a]at r;exact d.lt r
 have g:∀b,(H.new (.cf o)).get b=if b=H.next then some (.cf o) else H.get b:=λb=>ae.mw H b _
 have j:∀b L,γ.set H.next ⟨c,0,0,0⟩ b=some L->fL ((H.new (.cf o)).get b)->γ b=some L/\fL (H.get b):=λb L h r=>by
  rw[g]at r;by_cases c:b=H.next
  ·rw[aL c]at r;exact r.elim
  ·rw[aT.iu _ _ c]at h;rw[aw c]at r;exact⟨h,r⟩
 have l:∀b,(b<ay.heap.size/\(gY γ H w b∨w.heap.size<=b))->gY (γ.set H.next ⟨c,0,0,0⟩) (H.new (.cf o)) ay b:=λb ⟨a,d⟩=>⟨a,λm L h r=>by
  obtain⟨b,c⟩:=j m L h r
  rcases d with d | d
  ·exact d.2 m L b c
  ·have:=x m L b c;omega⟩
 have y:∀b,gY γ H w b->gY (γ.set H.next ⟨c,0,0,0⟩) (H.new (.cf o)) ay b/\ay.heap[b]? = w.heap[b]?:=λb h=>⟨l b ⟨fK h.1 e.size,.inl h⟩,k b h.1⟩;refine⟨⟨λb L h=>?_,λb L h=>?_,λb h=>?_,λb s L t h z r A B=>?_,λb L h r=>?_,a8 f.size e.size⟩,q,λb L a d=>?_,e.size,λc i _=>k c i,rQ _,λb e _=>?_,λb L h r=>?_,λb L a d=>?_,e.os,e.tape,e.output⟩
 ·rw[g];by_cases n:b=H.next
  ·subst n;rw[aT.gU]at h;cases h;rw[aL rfl];exact⟨_,rfl,l c ⟨u,.inr i⟩,rfl,O.vh v λb e=>⟨l b e,rfl⟩⟩
  ·rw[aT.iu _ _ n]at h;obtain⟨x,a,d⟩:=f.bj b L h;rw[aw n];exact⟨x,a,d.mono q y λr=>k _ (d.lt r)⟩
 ·show b<H.next+1;by_cases e:b=H.next
  ·omega
  ·rw[aT.iu _ _ e]at h;have:=f.lt b L h;omega
 ·have h:H.next+1<=b:=h;rw[g,aw (by omega)];exact f.new b (by omega)
 ·obtain⟨c,e⟩:=j b L h r;obtain⟨k,l⟩:=j s t z A;exact f.inj b s L t c k e l B
 ·obtain⟨c,e⟩:=j b L h r;exact f.low b L c e
 ·by_cases c:b=H.next
  ·subst c;rw[aT.gU]at a;cases a;exact .inl i
  ·rw[aT.iu _ _ c,d]at a;cases a
 ·rw[g,aw (by omega)]
 ·have:=f.lt b L h;rw[g,aw (by omega)]at r;exact r
 ·by_cases e:b=H.next
  ·exact .inl (by omega)
  ·rw[aT.iu _ _ e,d]at a;cases a
section
variable{P:Program}{G:Nat->Bool}{X:aA}
def u7(P:Program)(R:Value->ae->Prop)(N:Nat->Prop)(W:World)(f:FuncId)(hi:Array Value):Prop:=
 pD P f hi W λe b=>∃r d a c,e=.returned d/\R r c/\aO a r d/\Rel ks 0 a c b/\Below W.heap.size W b/\(∀b L,a b=some L->N L.bj∨W.heap.size<=L.bj)/\∀b L,a b=some L->fL (c.get b)->W.heap.size<=L.bj
theorem vZ(d:∀g,G g=true->g=1){K:cv}(i:eJ ks P G K){N:Nat->Prop}{W:World}{γ:aT}{H:ae}(h:In ks N W γ H){f:FuncId}{args:List Value}{hi:Array Value}{R:Value->ae->Prop}{r:Value}{ab:ae}(j:K ⟨0,[],none⟩ f args H=some (r,ab))(k:R r ab)(aI:bN γ args hi.toList):u7 P R N W f hi:=by
 have l:fX G γ:=by
  intro g e;obtain rfl:=d g e;obtain⟨L,d,e,f⟩:=h.y9;exact⟨L,d,e,f⟩
 have m:=i ⟨0,[],none⟩ f args H r ab rfl j 0 γ W hi h.rel l aI;refine m.mono λ_ _ ⟨d,i,j,l,a⟩=>⟨r,i,d,ab,j,k,l,a.rel,⟨a.os,a.tape,a.output,a.grow,λd i=>a.u d i λb L c r=>(h.ro b r).elim⟩,λb L c=>?_,λb L c rw=>?_⟩
 ·cases e:γ b with
  | some d=>
    have:=a.ext b d e;rw[c]at this;cases this;exact .inl (h.n b L e)
  | none=>
    rcases a.fresh b L c e with q | ⟨d,_,_,q,_⟩
    ·exact .inr q
    ·exact(h.ro d q).elim
 ·cases e:γ b with
  | some d=>exact(h.ro b (a.kp b d e rw)).elim
  | none=>
    rcases a.fresh b L c e with q | ⟨a,_,_,q,_⟩
    ·exact q
    ·exact(h.ro a q).elim
theorem wR(d:G 1=true){e:Nat}{γ:aT}{H:ae}{w:World}(f:Rel gN e γ H w)(e:fX G γ)(g:my H=true):In ks (gY γ H w) w pz A2:=by
 obtain⟨L,h,i,_⟩:=e 1 d;obtain⟨_,b,j⟩:=f.bj 1 L h;rw[Pg g]at b;cases b;obtain⟨c,_,_,_,k,l,a⟩:=j;rw[i]at c a;exact In.start (λ_ m=>⟨rfl,m,k,l,a⟩) a c
theorem wm{h:Nat}{pm:Perm}{γ:aT}{H ab:ae}{w:World}(i:Rel gN h γ H w){x:gF}{v:Value}{f:FuncId}{hi:Array Value}(a':x.out H=(v,ab))(g:u7 P x.post (gY γ H w) w f hi):
 pD P f hi w λdq ay=>∃a aQ,dq=.returned aQ/\aO a v aQ/\Step gN h pm γ H w a ab ay:=by
 refine g.mono λdq ay ⟨_,aQ,a,r,b,d,e,l,j,s,t⟩=>?_;have m:∀{p g:Value} {q:Rat},ht r p q->aO a p g->∃c,g=.pointer (some ⟨c,0,none⟩)/\Step gN h pm γ H w (γ.set H.next ⟨c,0,0,0⟩) (H.new (.cf (.iZ q))) ay/\aO (γ.set H.next ⟨c,0,0,0⟩) (.pointer (some ⟨H.next,0,none⟩)) g:=λ{p g q} k u=>by
  obtain⟨c,L,n,rfl,o,rfl,f,v⟩:=ht.out (N:=λc=>gY γ H w c∨w.heap.size<=c) l s k u;have y:L.bj<ay.heap.size:=by
   obtain⟨x,a,g⟩:=l.bj n L o;rw[a]at f;exact g.lt f
  exact⟨L.bj,rfl,Step.cf i j (t n L o f) y (v.mono λc a f=>⟨⟨f,a⟩,rfl⟩),IS⟩
 cases x with
 | dr q=>
   cases a';obtain⟨c,rfl,a,f⟩:=m d e;exact⟨_,_,b,f,a⟩
 | val _=>
   cases a';obtain⟨rfl,f⟩:=d;obtain rfl:=aac e f;exact⟨γ,_,b,.plainCell f,Step.below i j⟩
 | no=>
   cases a';cases d;obtain⟨n,rfl,o⟩:=e.D1;obtain⟨n⟩:=n
   cases o with
   | cons v f=>
     cases f with
     | cons f w=>
       cases w;cases v;cases f;exact⟨γ,_,b,.tuple (.cons .zF (.cons (.bool _) .nil)),Step.below i j⟩
 | yes q=>
   cases a';obtain⟨p,rfl,k⟩:=d;obtain⟨n,rfl,o⟩:=e.D1;obtain⟨n⟩:=n
   cases o with
   | cons v f=>
     cases f with
     | cons f w=>
       cases w;obtain⟨c,rfl,x,y⟩:=m k v;obtain rfl:=f.mo;exact⟨_,_,b,.tuple (.cons y (.cons (.bool _) .nil)),x⟩
theorem Cd(j:G 1=true)(k:∀g,G g=true->g=1)(l:∀m d,eJ ks P G (X.K m d)){f:FuncId}{r:List Value->ae->Option gF}
 (h:∀args H x,r args H=some x->∀b γ w hi,Rel gN b γ H w->bN γ args hi->∀gW ai,In ks (gY γ H w) w gW ai->∃c d e,In ks (gY γ H w) w c d/\bN c e hi/\Call X ⟨0,[],none⟩ f e d x.post):fq gN P G f (dn r):=by
 intro _ args H _ _ _ a b γ w hi g m n;unfold dn at a
 cases i:my H with
 | false=>rw[i]at a;cases a
 | true=>
   rw[i]at a;simp only[cond_true]at a;split at a
   ·rename_i x o;simp only[aJ]at a;obtain⟨c,d,e,f,p,r,_,⟨M,q⟩,s⟩:=h args H x o b γ w hi.toList g n _ _ (wR j g m i);exact wm g a (vZ k (l M M) f (q M M (bc _) (bc _)) s p)
   ·cases a
theorem In.ok{O:cy}{N:Nat->Prop}{W:World}{γ:aT}{H:ae}(h:In O N W γ H):ck ⟨0,[],none⟩ H:=⟨rfl,Nat.zero_le _,h.rel.new,λ_ _=>trivial⟩
theorem zY(e:G 1=true)(i:∀g,G g=true->g=1)(j:∀m d,eJ ks P G (X.K m d)){f:FuncId}{k:Rat->gF}
 (h:∀{H v q},ck ⟨0,[],none⟩ H->Tab H->gC H v q->bo q=true->Call X ⟨0,[],none⟩ f [v] H (k q).post):fq gN P G f (dn (l7 k)):=by
 refine Cd e i j λ_ H _ a _ _ _ _ d g _ _ l=>?_;unfold l7 at a;split at a
 ·rename_i _;split at a
  ·rename_i p n
   cases b:bo p with
   | false=>rw[b]at a;cases a
   | true=>
     rw[b]at a;simp only[cond_true,aJ]at a;subst a
     cases g with
     | cons f k=>
       cases k;obtain⟨m,o,q,c,_,_,r,s⟩:=l.iZ (GU d n f);exact⟨m,o,[q],c,.cons r .nil,h c.ok c.ep s b⟩
  ·cases a
 ·cases a
theorem zZ(i:G 1=true)(j:∀g,G g=true->g=1)(l:∀m d,eJ ks P G (X.K m d)){f:FuncId}{k:Rat->Rat->gF}
 (h:∀{H v u p q},ck ⟨0,[],none⟩ H->gC H v p->gC H u q->bo p=true->bo q=true->Call X ⟨0,[],none⟩ f [v,u] H (k p q).post):fq gN P G f (dn (l8 k)):=by
 refine Cd i j l λ_ H _ a _ _ _ _ d g _ _ m=>?_;unfold l8 at a;split at a
 ·rename_i _ _;split at a
  ·rename_i p n;split at a
   ·rename_i q o
    cases b:(bo p&&bo q) with
    | false=>rw[b]at a;cases a
    | true=>
      rw[b]at a;simp only[cond_true,aJ]at a;subst a;rw[bK]at b
      cases g with
      | cons f c=>
        cases c with
        | cons c k=>
          cases k;obtain⟨_,_,p,q,_,_,r,s⟩:=m.iZ (GU d n f);obtain⟨t,u,v,e,w,x,y,z⟩:=q.iZ (GU d o c);exact⟨t,u,[p,v],e,.cons (r.mono w) (.cons y .nil),h e.ok (s.le x) z b.1 b.2⟩
   ·cases a
  ·cases a
 ·cases a
structure ME(P:Program)(G:Nat->Bool):Prop where
 SK:fq gN P G F.hF (dn z1)
 SH:fq gN P G F.jc (dn xr)
 SD:fq gN P G F.hV (dn Df)
 SM:fq gN P G F.kV (dn Dm)
 SI:fq gN P G F.im (dn Dj)
 SF:fq gN P G F.lx (dn Dh)
 SE:fq gN P G F.hr (dn Dg)
 SJ:fq gN P G F.kU (dn Dk)
 SL:fq gN P G F.fb (dn Dl)
 SG:fq gN P G F.nW (dn Di)
 SO:fq gN P G F.l1 (dn Dp)
 SN:fq gN P G F.hW (dn Dn)
theorem WG(f:G 1=true)(i:∀g,G g=true->g=1)(j:∀m d,eJ ks P G (X.K m d))(k:h5 X):ME P G where
 SK:=Cd f i j λw H x b y γ z A B r t u n=>by
  unfold z1 at b;split at b
  ·rename_i v
   cases e:(decide (-9223372036854775808<=v)&&decide (v<=9223372036854775807)) with
   | false=>rw[e]at b;cases b
   | true=>
     rw[e]at b;simp only[cond_true,aJ]at b;subst b;simp only[bK,cP]at e;exact⟨t,u,[.int .i64 v],n,(by cases r with | cons c d=>cases d;rw[c.fa];exact .cons (.int _ _) .nil),(UG k n.ok e.1 e.2).mono λ_ _ h=>h.2⟩
  ·cases b
 SH:=Cd f i j λw H x b y γ z A B r t u n=>by
  unfold xr at b;split at b
  ·rename_i s
   cases o:Nat.blt s.size 1000000 with
   | false=>rw[o]at b;cases b
   | true=>
     rw[o]at b;simp only[cond_true,aJ]at b;subst b;rw[hE,cP]at o;refine⟨t,u,[.string s],n,(by cases r with | cons c d=>cases d;rw[c.hL];exact .cons (.str _) .nil),?_⟩;refine(Ur (l:=s.data.toList) k n.ok n.ep o).mono λC D h=>?_
     rcases h.2 with⟨e,h⟩ | ⟨q,p,e,h,gP⟩
     ·rw[e];exact h
     ·rw[e];exact⟨p,h,gP⟩
  ·cases b
 SD:=zZ f i j λa c d g m=>(Mn k.todQ a c d (bo.aV g) (bo.aV m) (by decide)).mono λ_ _ h=>h.2
 SM:=zZ f i j λa c d g m=>(M0 k.todQ a c d (bo.aV g) (bo.aV m) (by decide)).mono λ_ _ h=>h.2
 SI:=zZ f i j λa c d g m=>(UD k.todQ a c d (bo.aV g) (bo.aV m) (by decide)).mono λ_ _ h=>h.2
 SF:=zZ f i j λ{H _ _ p q} a c d g m=>(Uc k.todQ a c d (bo.aV g) (bo.aV m) (by decide)).mono λC D h=>by
  rcases h.2 with⟨e,h⟩ | ⟨e,x,h,gP⟩
  ·rw[aL e];exact h
  ·rw[aw e];exact⟨x,h,gP⟩
 SE:=zZ f i j λa c d g m=>(T0 k.todQ a c d (bo.aV g) (bo.aV m) (xN (bo.aV g) (bo.aV m)) (by decide)).mono λ_ _ h=>⟨h.2,rfl⟩
 SJ:=zY f i j λa _ h s=>(MO k.todQ a h (bo.aV s) (by decide)).mono λ_ _ h=>h.2
 SL:=zY f i j λa _ h s=>(MY k.todQ a h (bo.aV s) (by decide)).mono λ_ _ h=>⟨h.2,rfl⟩
 SG:=zY f i j λa _ h s=>(Um k.todQ a h (bo.aV s) (by decide)).mono λ_ _ h=>h.2
 SO:=zY f i j λa _ h s=>(UN k.todQ a h (bo.aV s) (by decide)).mono λ_ _ h=>⟨h.2,rfl⟩
 SN:=zY f i j λa E h s=>(M5 k a E h (bo.aV s) (by decide) (by decide)).mono λ_ _ h=>⟨h.2,rfl⟩
end
def rn{α:Type}(f:Nat):List (Nat×α)->Option α
 | []=>none
 | x::l=>bif Nat.beq f x.1 then some x.2 else rn f l
theorem y5{α:Type}{Q:Nat->α->Prop}{f:Nat}{F:α}:∀{l:List (Nat×α)},(∀x∈l,Q x.1 x.2)->rn f l=some F->Q f F
 | [],_,h=>by cases h
 | x::l,a,h=>by
   rw[rn,dc]at h;by_cases b:f=x.1
   ·subst b;simp only[decide_true,cond_true,aJ]at h;exact h▸a x (List.mem_cons_self)
   ·simp only[b,decide_false,cond_false]at h;exact y5 (λy b=>a y (List.mem_cons_of_mem _ b)) h
noncomputable def nu(gv:Nat->Option sF)(K:cv):cv:=λa f b H=>
 @Option.rec sF (λ_=>Option (Value×ae)) (K a f b H) (λg=>@Option.rec (Value×ae) (λ_=>Option (Value×ae)) (K a f b H) (λr=>some r) (g a b H)) (gv f)
theorem Cz{O:cy}{P:Program}{G:Nat->Bool}{K:cv}(o:eJ O P G K){gv:Nat->Option sF}(p:∀f g,gv f=some g->fq O P G f g):eJ O P G (nu gv K):=by
 intro a f b H v c d h e γ w i j k l;unfold nu at h
 cases m:gv f with
 | none=>rw[m]at h;exact o a f b H v c d h e γ w i j k l
 | some g=>
   rw[m]at h
   cases n:g a b H with
   | none=>simp only[n]at h;exact o a f b H v c d h e γ w i j k l
   | some _=>
     simp only[n]at h;exact p f g m a b H v c d (n.trans h) e γ w i j k l
def bq(H:ae)(v:Value)(n:Nat):Bool:=match v with
 | .pointer (some ⟨b,0,none⟩)=>(match H.get b with
   | some (.cells [.slice (some ⟨c,0,none⟩) 1 k] (.t _))=>(match H.get c with
     | some (.cells (.int .u32 (.ofNat d)::_) (.n 1))=>Nat.beq d n&&(Nat.blt 0 n&&(Nat.blt n 4294967296&&Nat.ble 1 k))
     | _=>false)
   | _=>false)
 | _=>false
theorem bq.nat{H:ae}{v:Value}{n:Nat}(h:bq H v n=true):cr H v n:=by
 unfold bq at h;split at h
 ·split at h
  ·rename_i c k _ a;split at h
   ·rename_i d _ b;simp only[bK,hE,cJ,dc,cP]at h;obtain⟨rfl,_,e,f⟩:=h;refine⟨[d],.inr ⟨_,_,_,rfl,a,⟨rfl,rfl⟩,λ_ g=>?_,.inr ⟨c,0,k,_,_,rfl,b,.inl rfl,rfl,by simp,f,trivial⟩⟩,?_,by simp[aN]⟩
    ·rw[mV.1 g];exact e
    ·simp[strip];omega
   ·cases h
  ·cases h
 ·cases h
def cV(H:ae)(p:Value)(q:Rat):Bool:=match p with
 | .pointer (some ⟨b,0,none⟩)=>(match H.get b with
   | some (.cells [.bool s,n,d] (.t _))=>(s==decide (q<0))&&(bq H n q.num.natAbs&&bq H d q.den)
   | _=>false)
 | _=>false
theorem cV.dr{H:ae}{p:Value}{q:Rat}(h:cV H p q=true):ht H p q:=by
 unfold cV at h;split at h
 ·split at h
  ·rename_i a;simp only[bK,o0]at h;obtain⟨rfl,b,c⟩:=h;exact⟨⟨.inr ⟨_,_,_,_,rfl,a,⟨rfl,rfl⟩,bq.nat b,bq.nat c⟩⟩,_,_,_,rfl,a⟩
  ·cases h
 ·cases h
def ew(s:List UInt8):List (List UInt8×Rat)->Option (List UInt8×Rat)
 | []=>none
 | x::l=>bif x.1==s then some x else ew s l
theorem hp{s:List UInt8}{x:List UInt8×Rat}:∀{l:List (List UInt8×Rat)},ew s l=some x->x∈l/\x.1=s
 | [],h=>by cases h
 | y::l,h=>by
   unfold ew at h
   cases e:y.1==s with
   | true=>
     rw[e]at h;simp only[cond_true,aJ]at h;subst h;exact⟨List.mem_cons_self,by simpa using e⟩
   | false=>
     rw[e]at h;exact⟨List.mem_cons_of_mem _ (hp h).1,(hp h).2⟩
def gE(K:cv)(f:Nat)(x:List UInt8×Rat):Bool:=match K ⟨0,[],none⟩ f [ak x.1] A2 with
 | some (.tuple a,H)=>(match a.toList with
   | [p,.bool true]=>cV H p x.2
   | _=>false)
 | _=>false
def gr(l:List (List UInt8×Rat)):sF:=λ_ a H=>bif my H then(match a with
 | [.string s]=>(match ew s.data.toList l with
   | some x=>some ((gF.yes x.2).out H)
   | none=>none)
 | _=>none) else none
theorem x5{P:Program}{G:Nat->Bool}(i:G 1=true)(j:∀g,G g=true->g=1){K:cv}(k:eJ ks P G K){f:FuncId}{l:List (List UInt8×Rat)}(aY:∀x∈l,gE K f x=true):fq gN P G f (gr l):=by
 intro _ _ H _ _ _ a _ _ _ f e g m;unfold gr at a
 cases c:my H with
 | false=>rw[c]at a;cases a
 | true=>
   rw[c]at a;simp only[cond_true]at a;split at a
   ·rename_i _;split at a
    ·rename_i x d;simp only[aJ]at a;obtain⟨d,n⟩:=hp d;have b:=aY x d;unfold gE at b;split at b
     ·rename_i _ _ h;split at b
      ·rename_i p o;rw[n]at h;refine wm e a (vZ j k (wR i e g c) h ⟨p,?_,cV.dr b⟩ ?_)
       ·rw[<-o]
       ·obtain⟨l⟩:=f
        cases m with
        | cons l q=>
          cases q;rw[l.hL];exact .cons (.str _) .nil
      ·cases b
     ·cases b
    ·cases a
   ·cases a
end Go.Dam.C
namespace Go.Dam
open Go
section
variable{X:aA}{pm:Perm}{Q j7:cl}
theorem ez.mono(h:∀x l H,Q x l H->j7 x l H):∀{aD:List Fr} {x:e1} {e:Env} {H:ae},ez X pm x e H aD Q->ez X pm x e H aD j7
 | [],_,_,_,⟨l,a,b⟩=>⟨l,a,h _ _ _ b⟩
 | .seq _::aD,x,e,H,q=>by
   cases x with
   | normal=>
     obtain⟨a,b,c,d,e⟩:=q;exact⟨a,b,c,d,ez.mono h e⟩
   | exit i=>exact ez.mono (aD:=aD) (x:=.exit i) h q
   | ret=>exact ez.mono (aD:=aD) (x:=.ret) h q
 | .bj id::aD,x,e,H,q=>by
   cases x with
   | normal=>exact ez.mono (aD:=aD) (x:=.normal) h q
   | ret=>exact ez.mono (aD:=aD) (x:=.ret) h q
   | exit _=>
     simp only[ez]at q|-;split
     ·rename_i f;rw[aL f]at q;exact ez.mono h q
     ·rename_i g;rw[aw g]at q;exact ez.mono h q
theorem jr.mono(h:∀x l H,Q x l H->j7 x l H){c:nn}{l:bn}{H:ae}{aD:List Fr}(q:jr X pm c l H aD Q):jr X pm c l H aD j7:=λe a=>by
 have:=q e a
 cases c with
 | code c=>obtain⟨a,b,d,e,f⟩:=this;exact⟨a,b,d,e,ez.mono h f⟩
 | ops _=>obtain⟨a,b,c,d⟩:=this;exact⟨a,b,c,ez.mono h d⟩
 | res x=>exact ez.mono h this
theorem wp_mono(h:∀x l H,Q x l H->j7 x l H){c:nn}{l:bn}{H:ae}{aD:List Fr}:wp X pm c l H aD Q->wp X pm c l H aD j7:=by
 fun_induction wp X pm c l H aD Q with
 | case1 l H aD ih=>simp_all
 | case2 l H aD _ ih=>simp_all
 | case3=>intro q;rw[wp];exact jr.mono h q
 | case4 l H aD _ _ ih=>simp_all
 | case5 l H aD c _ _ _ _ _ _=>simp_all
 | case6=>grind
 | case7 l H aD id _ ih=>simp_all
 | case8=>intro q;rw[wp];exact jr.mono h q
 | case9 l H aD id ih=>simp_all
 | case10 l H aD ih=>simp_all
 | case11=>grind
 | case12 l H aD ih=>simp_all
 | case13 l H aD _ _ _ _ a=>intro q;rw[wp];rw[a];exact jr.mono h q
 | case14 l H aD _ _ _ _ a=>intro q;rw[wp];rw[a];exact jr.mono h q
 | case15 l H aD _ _ _ _ _ _ _ ih=>
   intro _;rw[wp];grind
 | case16=>grind
 | case17 l H x=>simp_all
 | case18 l H _ aD ih=>simp_all
 | case19 l H _ aD x _ ih=>intro _;cases x with
   | normal=>grind
   | exit _=>simp_all
   | ret=>simp_all
 | case20 l H id aD ih=>simp_all
 | case21 l H id aD _ _ ih=>simp_all
 | case22 l H id aD x _ ih=>intro _;cases x with
   | normal=>simp_all
   | exit _=>grind
   | ret=>simp_all
end
section
variable{X:aA}{pm:Perm}{Q j7:cl}
theorem ez.frame{a:List Fr}(h:∀x l H,j7 x l H->wp X pm (.res x) l H a Q):∀{aD:List Fr} {x:e1} {e:Env} {H:ae},ez X pm x e H aD j7->ez X pm x e H (aD++a) Q
 | [],x,e,H,⟨l,b,c⟩=>nj (h _ _ _ c) e b
 | .seq _::aD,x,e,H,q=>by
   cases x with
   | normal=>
     obtain⟨b,c,d,e,f⟩:=q;exact⟨b,c,d,e,ez.frame h f⟩
   | exit i=>exact ez.frame (aD:=aD) (x:=.exit i) h q
   | ret=>exact ez.frame (aD:=aD) (x:=.ret) h q
 | .bj id::aD,x,e,H,q=>by
   cases x with
   | normal=>exact ez.frame (aD:=aD) (x:=.normal) h q
   | ret=>exact ez.frame (aD:=aD) (x:=.ret) h q
   | exit _=>
     simp only[ez,mW]at q|-;split
     ·rename_i g;rw[aL g]at q;exact ez.frame h q
     ·rename_i j;rw[aw j]at q;exact ez.frame h q
theorem jr.frame{a:List Fr}(h:∀x l H,j7 x l H->wp X pm (.res x) l H a Q){c:nn}{l:bn}{H:ae}{aD:List Fr}(q:jr X pm c l H aD j7):jr X pm c l H (aD++a) Q:=λe a=>by
 have:=q e a
 cases c with
 | code c=>obtain⟨a,b,d,e,f⟩:=this;exact⟨a,b,d,e,ez.frame h f⟩
 | ops _=>obtain⟨a,b,c,d⟩:=this;exact⟨a,b,c,ez.frame h d⟩
 | res x=>exact ez.frame h this
theorem acm{a:List Fr}(h:∀x l H,j7 x l H->wp X pm (.res x) l H a Q){c:nn}{l:bn}{H:ae}{aD:List Fr}:wp X pm c l H aD j7->wp X pm c l H (aD++a) Q:=by
 fun_induction wp X pm c l H aD j7 with
 | case1 l H aD ih=>simp_all
 | case2 l H aD _ ih=>simp_all
 | case3=>intro q;rw[wp];exact jr.frame h q
 | case4 l H aD _ _ ih=>simp_all
 | case5 l H aD c _ _ _ _ _ _=>simp_all
 | case6=>grind
 | case7 l H aD id _ ih=>simp_all
 | case8=>intro q;rw[wp];exact jr.frame h q
 | case9 l H aD id ih=>simp_all
 | case10 l H aD ih=>simp_all
 | case11=>grind
 | case12 l H aD ih=>simp_all
 | case13 l H aD _ _ _ _ b=>intro q;rw[wp];rw[b];exact jr.frame h q
 | case14 l H aD _ _ _ _ b=>intro q;rw[wp];rw[b];exact jr.frame h q
 | case15 l H aD _ _ _ _ _ _ _ ih=>
   intro _;rw[wp];grind
 | case16=>grind
 | case17 l H x=>grind
 | case18 l H _ aD ih=>simp_all
 | case19 l H _ aD x _ ih=>intro _;cases x with
   | normal=>grind
   | exit _=>simp_all
   | ret=>simp_all
 | case20 l H id aD ih=>simp_all
 | case21 l H id aD _ _ ih=>simp_all
 | case22 l H id aD x _ ih=>intro _;cases x with
   | normal=>simp_all
   | exit _=>grind
   | ret=>simp_all
theorem wp_cut{c:nn}{l:bn}{H:ae}{aD:List Fr}(j7:cl)(q:wp X pm c l H [] j7)(h:∀x l H,j7 x l H->wp X pm (.res x) l H aD Q):wp X pm c l H aD Q:=acm (aD:=[]) h q
end
end Go.Dam
namespace Go.Dam.C
open Go Go.Dam
variable{X:aA}{pm:Perm}{H ab:ae}
def A1(X:aA)(pm:Perm)(f:Nat)(aD:List Fr)(Q:cl)(b:bn->ae->Prop):cl:=λx a ab=>match x with
 | .normal=>b a ab
 | .exit j=>if j=f then b a ab else wp X pm (.res (.exit j)) a ab aD Q
 | .ret=>wp X pm (.res .ret) a ab aD Q
@[simp] theorem acL{f:Nat}{aD:List Fr}{Q:cl}{a:bn->ae->Prop}{l:bn}:A1 X pm f aD Q a .normal l H=a l H:=rfl
@[simp] theorem Up{f:Nat}{aD:List Fr}{Q:cl}{a:bn->ae->Prop}{l:bn}:A1 X pm f aD Q a .ret l H=wp X pm (.res .ret) l H aD Q:=rfl
@[simp] theorem Uo{f:Nat}{aD:List Fr}{Q:cl}{a:bn->ae->Prop}{l:bn}{i:Nat}:A1 X pm f aD Q a (.exit i) l H=if i=f then a l H else wp X pm (.res (.exit i)) l H aD Q:=rfl
theorem M1{i a:Nat}{u v:Value}{aU:bn}:∀(M:bn),aF i M=none->aF a M=none->Sub M aU->Sub M ((i,u)::(a,v)::aU)
 | [],_,_,_=>trivial
 | (j,_)::M,b,c,d=>by
   simp only[HG]at b c;by_cases e:i=j
   ·grind
   by_cases f:a=j
   ·grind
   rw[aw e]at b;rw[aw f]at c;simp only[yc,HG,Ne.symm e,Ne.symm f,if_false]at d|-;exact⟨d.1,M1 M b c d.2⟩
theorem er{σ:Type}{c i n a e f:Nat}{B:aG}{l:bn}{aD:List Fr}{Q:cl}(N:Nat)(L:Nat->σ->bn)(I:Nat->σ->ae->Prop)(d:σ)
 (q:Sub ((i,.int .i64 0)::(n,.int .i64 (N:Int))::L 0 d) l) (aP:I 0 d H)
 (r:∀k s H,k<N->I k s H->wp X pm (.code B) ((c,.bool true)::(i,.int .i64 (k:Int))::(n,.int .i64 (N:Int))::L k s) H []
  (A1 X pm f aD Q λaU ab=>∃b,Sub ((i,.int .i64 (k:Int))::(n,.int .i64 (N:Int))::L (k+1) b) aU/\I (k+1) b ab))
 (C:∀s H,I N s H->wp X pm (.res (.exit e)) ((c,.bool false)::(i,.int .i64 (N:Int))::(n,.int .i64 (N:Int))::L N s) H aD Q) (t:c≠i/\c≠n/\a≠i/\a≠n/\i≠n:=by decide) (D:N<9223372036854775807:=by omega) (g:∀k s,aF i (L k s)=none/\aF a (L k s)=none:=by simp):
 fh X pm (.seq (.bs [o c (.bin .lss .bR (.t i) (.t n))]) (.seq (.cond (.t c) .skip (.exit e)) (.seq (.block f B) (.bs [o a (.bin .add .bR (.t i) (.c (.int .i64 (.ofNat 1)))),m i a])))) l H aD Q:=by
 obtain⟨_,_,_,u,h⟩:=t;refine fh.of (σ:=Nat×σ) (λs=>(i,.int .i64 (s.1:Int))::(n,.int .i64 (N:Int))::L s.1 s.2) (λs H=>s.1<=N/\I s.1 s.2 H) (λs=>N-s.1) (0,d) (by simpa using q) ⟨Nat.zero_le _,aP⟩ ?_;rintro⟨k,s⟩ H ⟨v,j⟩;simp only at v j|-;by_cases p:k<N
 ·have l:wr .i64 ((k:Int)+1)=((k+1:Nat):Int):=by rw[cE];simp
  simp[Ne.symm h,p];refine wp_cut _ (r k s H p j) λx aU ab b=>?_
  have e:(∃c,Sub ((i,.int .i64 (k:Int))::(n,.int .i64 (N:Int))::L (k+1) c) aU/\I (k+1) c ab)->wp X pm (.res .normal) aU ab [.seq (.bs [o a (.bin .add .bR (.t i) (.c (.int .i64 (.ofNat 1)))),m i a])] λx aU ab=>match x with
   | .normal=>kt (λ(s:Nat×σ)=>(i,.int .i64 (s.1:Int))::(n,.int .i64 (N:Int))::L s.1 s.2) (λs H=>s.1<=N/\I s.1 s.2 H) (λs=>N-s.1) (k,s) aU ab
   | x=>wp X pm (.res x) aU ab aD Q:=by
   rintro⟨c,f,m⟩;simp only[yc]at f;obtain⟨o,w,y⟩:=f;simp[o,l];refine .of (k+1,c) (by grind) ?_ ⟨by grind,m⟩;simp only[yc,HG,if_true,Ne.symm h,if_false,Ne.symm u];exact⟨rfl,w,M1 _ (g _ _).1 (g _ _).2 y⟩
  cases x with
  | normal=>rw[JZ];exact e b
  | exit _=>
    rw[Uo]at b;rw[AD];split
    ·rename_i z;rw[aL z]at b;exact e b
    ·rename_i A;rw[aw A]at b;rw[J1,J0];exact b
  | ret=>rw[Eb,Ec,J0];exact b
 ·obtain rfl:k=N:=by omega
  simp_all
theorem cY{o:aE}{f:FuncId}{args:List b0}{ct:List Bool}{os:List aE}{aK k:Nat}{l:bn}{b:List Rec}{c:Fin}{aq:List Value}{R:Value->ae->Prop}(g:bl pm H)(d:H.get (aK+k)=none)
 (e:ct.headD false=false) (h:∀cu,bl cu H->Call X cu f aq H λr ab=>K cu H ab/\R r ab)
 (i:∀v a,K pm H a->R v a->k5 X pm ct.tail os aK (k+1) (kk l o.dst v) a (⟨[],dj ⟨pm.ah,pm.ok,some (aK+k)⟩ aq,H,v,λ_=>none⟩::b) c) (a':kN o l=some true:=by simp) (aI:eO (jC l) args=some aq:=by simp):d' X pm o f args ct os aK k l H b c:=
 d'.of d a' aI e (h _ (g.perm rfl (bc _))) λv a ⟨b,r⟩=>i v a (b.perm g.num (a8 g.ah b.next)) r
theorem fG{o:aE}{f:FuncId}{args:List b0}{ct:List Bool}{os:List aE}{aK k:Nat}{l:bn}{b:List Rec}{c:Fin}{aq:List Value}{R:Value->ae->Prop}(g:bl pm H)(d:H.get (aK+k)=none)
 (e:ct.headD false=true) (h:∀cu,bl cu H->Call X cu f aq H λr ab=>K cu H ab/\R r ab)
 (i:∀v a,K pm H a->R v a->k5 X pm ct.tail os aK (k+1) (kk l o.dst v) a (⟨[],[],H,v,λ_=>none⟩::b) c) (a':kN o l=some true:=by simp) (aI:eO (jC l) args=some aq:=by simp):d' X pm o f args ct os aK k l H b c:=
 d'.fixed d a' aI e (h _ (g.perm rfl g.ah)) λv a ⟨b,r⟩=>i v a (b.perm g.num (a8 g.ah b.next)) r
theorem g'{f:FuncId}{aq:List Value}{R:Value->Prop}(g:bl pm H)(h:Call X pm f aq H λr ab=>ab=H/\R r):Call X pm f aq H λr ab=>K pm H ab/\ab=H/\R r:=
 h.mono λ_ _ ⟨a,b⟩=>by subst a;exact⟨K.refl g,rfl,b⟩
end Go.Dam.C
namespace Go.Dam.C
open Go Go.Dam
theorem fT(l:List Nat):c6 [] l=true:=rfl
theorem cU(l:List Nat):c6 l []=true:=by simp[c6]
theorem l0(m:Perm)(l:List UInt8):dj m [ak l]=[]:=rfl
structure a1 where
 name:List UInt8
 low:List UInt8
 up:List UInt8
 cost:List UInt8
 int:Bool
structure dL where
 ad:Int
 v:List UInt8
structure b9 where
 name:List UInt8
 kind:Int
 G:List dL
 rhs:List UInt8
 tw:List UInt8
structure ar where
 a:List a1
 rows:List b9
def a1.cells(c:a1):List Value:=[ak c.name,ak c.low,ak c.up,ak c.cost,.bool c.int]
def dL.cells(c:dL):List Value:=[.int .i64 c.ad,ak c.v]
def b9.cells(r:b9)(cj:Value):List Value:=[ak r.name,.int .i64 r.kind,cj,ak r.rhs,ak r.tw]
def isNum(l:List UInt8):Bool:=(gq l).isSome
def rd(l:List UInt8):Rat:=(gq l).getD 0
structure dE(H:ae)(v:Value)(m w:Nat)(P:Nat->List Value->Prop):Prop where
 ex:∃base cap,v=.slice base m cap/\∀i,i<m->∃b off y row cs,base=some ⟨b,off,none⟩/\H.get b=some y/\rowOf y=some row/\bB row (off+i*w) w=some cs/\P i cs
def hO(H:ae)(v:Value)(l:List a1):Prop:=dE H v l.length 5 λi a=>∃c,l[i]? = some c/\a=c.cells
def kz(H:ae)(v:Value)(l:List dL):Prop:=dE H v l.length 2 λi a=>∃c,l[i]? = some c/\a=c.cells
def jn(H:ae)(v:Value)(l:List b9):Prop:=dE H v l.length 5 λi b=>∃r a,l[i]? = some r/\b=r.cells a/\kz H a r.G
def kA(H:ae)(v:Value)(aa:ar):Prop:=∃a b,v=.agg #[a,b]/\hO H a aa.a/\jn H b aa.rows
structure fA(X:aA):Prop extends EL X where
 lX:Has X F.lX C.lX
 iI:Has X F.iI C.iI
 rJ:Has X F.rJ C.rJ
 rL:Has X F.rL C.rL
 ki:Has X F.ki C.ki
 rH:Has X F.rH C.rH
 qb:Has X F.qb C.qb
 mQ:Has X F.mQ C.mQ
 qh:Has X F.qh C.qh
 qg:Has X F.qg C.qg
 qa:Has X F.qa C.qa
 oV:Has X F.oV C.oV
 qf:Has X F.qf C.qf
 qc:Has X F.qc C.qc
 rI:Has X F.rI C.rI
 oW:Has X F.oW C.oW
 rK:Has X F.rK C.rK
 p':Has X F.p' C.p'
 qw:Has X F.qw C.qw
 pb:Has X F.pb C.pb
 qx:Has X F.qx C.qx
 rZ:Has X F.rZ C.rZ
variable{X:aA}{pm:Perm}{H ab bX:ae}{n:Nat}
theorem dE.imp{v:Value}{m w:Nat}{P a:Nat->List Value->Prop}(h:dE H v m w P)(a':∀b y,H.get b=some y->ab.get b=some y)(c:∀i cs,i<m->P i cs->a i cs):dE ab v m w a:=by
 obtain⟨a,d,e,f⟩:=h.ex;exact⟨a,d,e,λi a=>by
  obtain⟨b,d,y,e,cs,g,h,j,k,l⟩:=f i a;exact⟨b,d,y,e,cs,g,a' _ _ h,j,k,c _ _ a l⟩⟩
theorem hO.ext{v:Value}{l:List a1}(h:hO H v l)(a':Ext H ab):hO ab v l:=dE.imp h a' λ_ _ _=>id
theorem kz.ext{v:Value}{l:List dL}(h:kz H v l)(a':Ext H ab):kz ab v l:=dE.imp h a' λ_ _ _=>id
theorem jn.ext{v:Value}{l:List b9}(h:jn H v l)(a':Ext H ab):jn ab v l:=
 dE.imp h a' λ_ _ _ ⟨r,a,b,c,d⟩=>⟨r,a,b,c,d.ext a'⟩
theorem kA.ext{v:Value}{aa:ar}(h:kA H v aa)(a':Ext H ab):kA ab v aa:=by
 obtain⟨a,b,c,d,e⟩:=h;exact⟨a,b,c,d.ext a',e.ext a'⟩
theorem K.ext(k:K pm H ab)(g:bl pm H):Ext H ab:=λ_ _ h=>k.some g h
theorem dE.at{v:Value}{m w:Nat}{P:Nat->List Value->Prop}(h:dE H v m w P):∃a cap,v=.slice a m cap/\∀i,i<m->∃b off y c cs,a=some ⟨b,off,none⟩/\H.get b=some y/\rowOf y=some c/\bB c (off+i*w) w=some cs/\P i cs:=h.ex
theorem zt(a:fA X)(g:bl pm H){l:List UInt8}(aY:l.length<1000000):Call X pm F.lX [ak l] H λr ab=>K pm H ab/\r=.bool (isNum l):=by
 refine Call.has a.lX rfl ?_;simp;refine al.of (qS a.toEL g aY) ?_;rintro r _ ⟨b,h⟩
 rcases h with⟨e,rfl⟩ | ⟨q,p,e,rfl,fw⟩
 ·simp[isNum,e];exact b
 ·simp[isNum,e];exact b
theorem o'(a:fA X)(g:bl pm H){l:List UInt8} (b:isNum l=true)(aY:l.length<1000000:=by omega):Call X pm F.iI [ak l] H λr ab=>K pm H ab/\b4 ab r (rd l):=by
 refine Call.has a.iI rfl ?_;simp;refine al.of (qS a.toEL g aY) ?_;rintro r _ ⟨c,h⟩
 rcases h with⟨e,rfl⟩ | ⟨q,p,e,rfl,fw⟩
 ·simp[isNum,e]at b
 ·simp[rd,e];exact⟨c,fw⟩
theorem Oh{t:List UInt8}:(kH t).1.length<=t.length/\(kH t).2.length<=max t.length 1:=by
 unfold kH;split
 ·refine⟨(List.takeWhile_sublist _).length_le,a8 ?_ (Nat.le_max_left _ _)⟩;rw[List.length_tail];exact a8 (Nat.sub_le _ _) (List.dropWhile_sublist _).length_le
 ·simp;omega
theorem QK{l:List UInt8}:(ik l).2.length<=l.length:=by
 unfold ik;split<;>simp
theorem hf{l:List UInt8}{k:Nat}(h:l.length<=k) (av:1<=k:=by decide):aV (rd l) k:=by
 unfold rd
 cases e:gq l with
 | none=>
   have:4294967296^1<=4294967296^k:=hX (by decide) av;exact⟨by show 0<_;omega,by show 1<_;omega⟩
 | some _=>
   unfold gq lh at e;split at e
   ·rename_i b;obtain⟨c,d,a,_⟩:=b;simp only[aJ]at e;have j:=@Oh (ik l).2;have m:=@QK l;have f:=(wk c).1;have g:=(wk d).1;have h:=lv f (show _<=k by omega);have i:=lv g (show _<=k by omega);rw[<-e];simp only[je];exact⟨by rw[CD a];exact dk (lA _ _) h,by rw[CC a];exact dk (lA _ _) i⟩
   ·cases e
theorem jf{l:List UInt8}(h:l.length<=10000):bo (rd l)=true:=(hf (k:=10000) h).bo (by decide)
theorem kb(p q:Rat):(iF p q<0)=(p<q):=by
 unfold iF;apply propext;by_cases h:p<q
 ·simp[h]
 ·by_cases a:p=q<;>simp[h,a]
theorem cmp_eq(p q:Rat):(iF p q=0)=(p=q):=by
 unfold iF;apply propext;by_cases h:p<q
 ·simp only[h,if_true];exact⟨λh=>by omega,λe=>absurd (e▸h) th⟩
 ·by_cases a:p=q<;>simp[h,a]
theorem nz(p q:Rat):(0<iF p q)=(q<p):=by
 unfold iF;apply propext;by_cases h:p<q
 ·simp only[h,if_true];exact⟨λh=>by omega,λe=>absurd e (fy.2 (iJ h))⟩
 ·by_cases a:p=q
  ·subst a;simp
  ·simp only[h,a,if_false];exact⟨λ_=>Rat.lt_of_le_of_ne (fy.1 h) (Ne.symm a),λ_=>by omega⟩
theorem QW(p q:Rat):(!decide (p<=q))=decide (q<p):=by
 by_cases h:p<=q
 ·simp[h,fy.2 h]
 ·simp[h,Rat.not_le.1 h]
end Go.Dam.C
namespace Go.Dam.C
open Go Go.Dam
def h9(c:a1):Bool:=isNum c.cost&&((c.low.isEmpty||isNum c.low)&&((c.up.isEmpty||isNum c.up)&&(c.low.isEmpty||(c.up.isEmpty||decide (rd c.low<=rd c.up)))))
def a1.ok(c:a1):Prop:=c.low.length<=10000/\c.up.length<=10000/\c.cost.length<=10000
variable{X:aA}{pm:Perm}{H ab bX:ae}
def pJ(b:List n')(R:Value->ae->Prop):cl:=λx l ab=>(x=.normal∨x=.ret)/\∃a,kn l ab b=some a/\R (iw a) ab
@[simp] theorem cm{a:List n'}{R:Value->ae->Prop}{x:e1}{l:bn}{ab:ae}:pJ a R x l ab=((x=.normal∨x=.ret)/\∃aq,kn l ab a=some aq/\R (iw aq) ab):=rfl
theorem Call.hT{f:FuncId}{args:List Value}{R:Value->ae->Prop}{F:bg}(a:Has X f F)(b:Nat.ble args.length F.kh=true)
 (h:wp X pm (.code F.body) (ub args 0 []) H [] (pJ F.res R)):Call X pm f args H R:=Call.has a b h
theorem bl.none(g:bl pm H)(t:Nat):H.get (H.next+t)=Option.none:=g.wf _ (gj _ _)
theorem bl.O(g:bl pm H):H.get H.next=Option.none:=g.wf _ (bc _)
theorem aC.res{n:Nat}{a:ae}(u:K pm (H.up n) a)(g:bl pm H):∀t,t<n->a.get (H.next+t)=none:=λt _=>(u.get _ (by show H.next+t<H.next+n;omega)).trans (g.none t)
theorem N7(f:fA X){ai:ae}(h:K pm ai H){kS ah a co:List UInt8}{i:Bool}(b7:ah.length<=10000)(cH:a.length<=10000)(l:ah.isEmpty=true∨isNum ah=true)(m:a.isEmpty=true∨isNum a=true){b:Nat}{z:cM}(a':H.get b=some (.cells [ak kS,ak ah,ak a,ak co,.bool i] z)){L:bn}(n:aF 1 L=some (.pointer (some ⟨b,0,none⟩))):
 wp X pm (.code kj) L H [] (pJ [.slot 2] λr ab=>K pm ai ab/\r=.bool (ah.isEmpty||(a.isEmpty||decide (rd ah<=rd a)))):=by
 have g:=h.q;have b:∀u,H.get (H.next+u)=none:=g.none;have o:H.get H.next=none:=g.O;have p:=g.lt a';have i:K pm H (H.up 19):=(K.refl g).up 19;simp[-cm];refine cx.of g.ah rfl ?_;by_cases j:ah.isEmpty=true∨a.isEmpty=true
 ·have e:(ah.isEmpty||a.isEmpty)=true:=by simpa using j
  have k:=h.trans i;cases c:ah.isEmpty<;>cases d:a.isEmpty<;>first | (simp[c,d]at e;done) | skip
  all_goals
   simp[b8,b,o,n,a',eM,c,d]
   refine d'.not (by simp[b]) ?_
   simp
   refine d'.not (by simp[b]) ?_
   simp
   refine d'.not (by simp[b]) ?_
   simp[b,b3,bZ,p, cU]
   exact k
 ·have q:ah.isEmpty=false:=by cases k:ah.isEmpty<;>simp[k]at j|-
  have r:a.isEmpty=false:=by cases k:a.isEmpty<;>simp[k]at j|-
  simp[q]at l;simp[r]at m;simp[b8,b,o,n,a',eM,q,r];refine cY i.q (aq:=[ak ah]) (by simp[b]) rfl (λs c=>o' f c l) ?_;rintro v _ d w;have b:=d.res g;simp;refine fG d.q (aq:=[ak a]) (by simp[b]) rfl (λs c=>o' f c m) ?_;rintro a _ e x;have t:=(d.trans e).res g;simp;refine fG e.q (aq:=[v,a]) (by simp[t]) rfl (λs c=>g' c (k7 f.toEL c (w.up e).of x.of (jf b7) (jf cH))) ?_;rintro _ _ _ ⟨rfl,rfl⟩;simp[t,b3,bZ,p,fT,cU,l0,nz,QW];exact h.trans (i.trans (d.trans e))
theorem Ga(g:fA X){ai:ae}(d:K pm ai H){kS ah a co:List UInt8}{i:Bool}(b7:ah.length<=10000)(cH:a.length<=10000){b:Nat}{z:cM}(a':H.get b=some (.cells [ak kS,ak ah,ak a,ak co,.bool i] z)){L:bn}(f:aF 1 L=some (.pointer (some ⟨b,0,none⟩)))
 {c:Bool} (b:c=false->ah.isEmpty=true∨isNum ah=true) (h:aF 17 L=some (.bool c)) :
 wp X pm (.ops (mP.drop 3)) L H [.seq qe,.seq kj] (pJ [.slot 2] λr ab=>K pm ai ab/\r=.bool (!c&&((a.isEmpty||isNum a)&&(ah.isEmpty||(a.isEmpty||decide (rd ah<=rd a)))))):=by
 rw[show mP.drop 3=(m 18 17)::⟨(some 19),(some (18,false)),.fieldAddr 2 (.t 1)⟩::⟨(some 20),(some (18,false)),.load false 1 (.t 19)⟩::⟨(some 21),(some (18,false)),.bin .neq .bR (.t 20) (.c (.string ⟨#[]⟩))⟩::⟨(some 22),(some (18,false)),.dw (.t 21)⟩::⟨(some 23),(some (22,true)),.fieldAddr 2 (.t 1)⟩::⟨(some 24),(some (22,true)),.load false 1 (.t 23)⟩::⟨(some 25),(some (22,true)),.call F.lX [(.t 24)]⟩::Ix from rfl]
 cases c with
 | true=>
   simp[h,-kj,-cm];refine al.not (a':=by simp[aR]) ?_;simp[aR];exact d
 | false=>
   have b:=b rfl
   cases e:a.isEmpty with
   | true=>
     simp[h,f,a',eM,e,-kj,-cm];refine al.not ?_;simp[-kj,-cm];refine wp_mono (λ_ l ab c=>?_) (N7 g d (kS:=kS) (co:=co) (i:=i) b7 cH b (.inl e) a' (by simp[f]));simpa [e]using c
   | false=>
     simp[h,f,a',eM,e,-kj,-cm];refine al.of (zt g d.q (l:=a) (by omega)) ?_;rintro _ _ ⟨c,rfl⟩
     cases j:isNum a with
     | true=>
       simp[-kj,-cm];refine wp_mono (λ_ l ab h=>?_) (N7 g (d.trans c) (kS:=kS) (co:=co) (i:=i) b7 cH b (.inr j) (c.some d.q a') (by simp[f]));simpa [e]using h
     | false=>
       simp[-kj];exact d.trans c
theorem VL(a:fA X)(g:bl pm H){c:a1}(w:c.ok):Call X pm F.rJ [.agg c.cells.toArray] H λr ab=>K pm H ab/\r=.bool (h9 c):=by
 obtain⟨kS,b,u,co,i⟩:=c;obtain⟨f,h,x⟩:=w;simp only at f h x;refine Call.hT a.rJ rfl ?_;obtain⟨j,m⟩:∃j,j=H.new (.cells [ak kS,ak b,ak u,ak co,.bool i] (.t T.RD)):=⟨_,rfl⟩;have n:K pm H j:=by rw[m];exact K.new g _
 have p:j.get H.next=some (.cells [ak kS,ak b,ak u,ak co,.bool i] (.t T.RD)):=by rw[m];exact cc
 obtain⟨j,v⟩:∃j,j=H.next:=⟨_,rfl⟩;rw[<-v]at p;simp[g.pick,g.make,ptr,a1.cells,<-m,<-v,p,-kj,-mP,-qe,-cm];refine al.of (zt a n.q (l:=co) (by omega)) ?_;rintro r _ ⟨k,rfl⟩;have d:=k.some n.q p;have q:=n.trans k;have s:mP=⟨(some 15),(some (11,true)),.un .not (.t 14)⟩::⟨(some 16),(some (7,false)),.pick (.t 11) (.t 15) (.c (.bool false))⟩::(o 17 (.pick (.t 7) (.c (.bool true)) (.t 16)))::mP.drop 3:=rfl
 cases t:isNum co with
 | false=>
   simp[aR,-kj,-mP,-qe,-cm];refine al.not ?_;rw[s];simp[aR,-kj,-mP,-qe,-cm,-List.drop_succ_cons];refine wp_mono (λ_ l ab e=>?_) (Ga a q (kS:=kS) (co:=co) (i:=i) f h d (c:=true) (by simp) (λe=>by cases e) (by simp));simpa [h9,t]using e
 | true=>
   cases e:b.isEmpty with
   | true=>
     simp[d,eM,e,aR,-kj,-mP,-qe,-cm];refine al.not ?_;rw[s];simp[aR,-kj,-mP,-qe,-cm,-List.drop_succ_cons];refine wp_mono (λ_ l ab g=>?_) (Ga a q (kS:=kS) (co:=co) (i:=i) f h d (c:=false) (by simp) (λ_=>.inl e) (by simp));simpa [h9,t,e]using g
   | false=>
     simp[d,eM,e, -kj,-mP,-qe,-cm];refine al.of (zt a k.q (l:=b) (by omega)) ?_;rintro r _ ⟨o,rfl⟩;rw[s];simp[-kj,-mP,-qe,-cm,-List.drop_succ_cons];refine wp_mono (λ_ l ab g=>?_) (Ga a (q.trans o) (kS:=kS) (co:=co) (i:=i) f h (o.some k.q d) (c:=!isNum b) (by simp) (λg=>.inr (by simpa using g)) (by simp));simpa [h9,t,e]using g
end Go.Dam.C
namespace Go.Dam.C
open Go Go.Dam
def dL.ok(c:dL):Prop:=c.v.length<=10000
def b9.ok(r:b9):Prop:=r.rhs.length<=10000/\r.G.length<=1000000/\∀c∈r.G,c.ok
def hB(n:Int):Int->List dL->Bool
 | _,[]=>true
 | last,c::l=>isNum c.v&&(c.v != [48]&&(decide (last<c.ad)&&(decide (c.ad<n)&&hB n c.ad l)))
def iM(r:b9)(n:Int):Bool:=hB n (-1) r.G&&(isNum r.rhs&&(r.tw.isEmpty&&(decide (1<=r.kind)&&decide (r.kind<=3))))
variable{X:aA}{pm:Perm}{H ab bX:ae}
theorem K.next(k:K pm H ab):H.next<=ab.next:=aC.next k
theorem gh(g:bl pm H)(x y:bz) (a:∀o,x≠.cf o:=by simp):K pm H ((H.new x).put H.next y):=aC.put (K.new g x) (bc _) cc a y
theorem Cg{α:Type}{l:List α}{k:Nat}(h:k<l.length):l.drop k=l[k]::l.drop (k+1):=List.drop_eq_getElem_cons h
theorem aaP(h:fA X){ai:ae}(c:K pm ai H){r:b9}{cj:Value}(k:r.rhs.length<=10000){b:Nat}{z:cM}(a':H.get b=some (.cells (r.cells cj) z)){L:bn}(a:aF 2 L=some (.pointer (some ⟨b,0,none⟩))):
 wp X pm (.code w4) L H [] (pJ [.slot 4] λq ab=>K pm ai ab/\q=.bool (isNum r.rhs&&(r.tw.isEmpty&&(decide (1<=r.kind)&&decide (r.kind<=3))))):=by
 obtain⟨_,i,_,b,j⟩:=r;simp[a,a',b9.cells,-cm];refine al.of (zt h c.q (l:=b) (by grind)) ?_;rintro _ _ ⟨f,rfl⟩;have d:=f.some c.q a';have g:=c.trans f;cases m:isNum b
 ·simp_all
 ·cases e:j.isEmpty
  ·simp[a,d,b9.cells,eM, e,aR];exact g
  ·by_cases b:(1:Int)<=i
   ·simp[a,d,b9.cells,eM, e,b,Int.not_lt.2 b,];grind
   ·simp[a,d,b9.cells,eM, e,b,Int.not_le.1 b,aR];exact g
theorem aaR(t:fA X)(g:bl pm H){r:b9}{cj:Value}{n:Nat}(G:r.ok)(I:kz H cj r.G):
 Call X pm F.rL [.agg (r.cells cj).toArray,.int .i64 (n:Int)] H λq ab=>K pm H ab/\q=.bool (iM r n):=by
 refine Call.hT t.rL rfl ?_;obtain⟨J,_,M⟩:=G;obtain⟨d,e,rfl,N⟩:=I.at;obtain⟨j,u⟩:∃j,j=H.new (.cells (r.cells (.slice d r.G.length e)) (.t T.ID)):=⟨_,rfl⟩;have O:K pm H j:=by rw[u];exact K.new g _
 have v:j.get H.next=some (.cells (r.cells (.slice d r.G.length e)) (.t T.ID)):=by rw[u];exact cc
 obtain⟨f,A⟩:∃f,f=H.next:=⟨_,rfl⟩;rw[<-A]at v;simp[g.pick,g.make,ptr,<-u,<-A,v,-w4,-C3,-cm];simp[b9.cells,-w4,-C3,-cm]
 refine er (σ:=Int) r.G.length (λk a=>[(1,.int .i64 (n:Int)),(2,.pointer (some ⟨f,0,none⟩)),(9,.slice d r.G.length e),(5,.int .i64 a)])
  (λk a ab=>K pm H ab/\ab.get f=some (.cells (r.cells (.slice d r.G.length e)) (.t T.ID))/\hB n a (r.G.drop k)=hB n (-1) r.G) (-1) (by simp) ⟨O,v,rfl⟩ ?_ ?_
 ·rintro k a h i ⟨w,F,m⟩;obtain⟨L,_,P,_,_,rfl,Q,R,S,c,B,rfl⟩:=N k i;rw[Cg i]at m;have j:r.G[k]=c:=by rw[en i]at B;exact jH B
  rw[j]at m;have U:c.ok:=M c (j▸tn i);have x:=w.some g Q;have b:=w.q;obtain⟨o,y⟩:∃o,o=(h.new (.cells [.int .i64 0,.string ⟨#[]⟩] (.t T.C2))).put h.next (.cells [.int .i64 c.ad,ak c.v] (.t T.C2)):=⟨_,rfl⟩;have p:K pm h o:=by rw[y];exact gh b _ _
  have C:o.get h.next=some (.cells [.int .i64 c.ad,ak c.v] (.t T.C2)):=by rw[y];exact bO
  have j:(h.new (.cells [.int .i64 0,.string ⟨#[]⟩] (.t T.C2))).get L=some P:=by rw[sY (b.lt x)];exact x
  simp[i,x,R,S,dL.cells,b.pick,b.make,b.may (bc _),ptr,bA,<-y,C];refine al.of (zt t p.q (l:=c.v) (by have:=U;unfold dL.ok at this;omega)) ?_;rintro _ V ⟨z,rfl⟩;have q:=z.some p.q C;have D:=w.trans (p.trans z);have W:=(p.trans z).some b F;have s:hB n a (c::r.G.drop (k+1))=false->K pm H V/\iM r n=false:=λb=>⟨D,by simp[iM,<-m,b]⟩;cases E:isNum c.v
  ·simp[aR];refine s ?_;simp[hB,E]
  ·by_cases b:c.v=[48]
   ·simp[b,q,eM,aR];refine s ?_;simp[hB, b]
   ·have g:(c.v==[48])=false:=by simpa using b
    by_cases b:a<c.ad
    ·by_cases h:c.ad<n
     ·simp[g,b,h,q,eM,];refine⟨D,W,?_⟩;simpa [hB,bne,E,g,b,h]using m
     ·simp[g,b,h,q,eM,];refine s ?_;simp[hB,h]
    ·simp[g,b,q,eM,aR];refine s ?_;simp[hB,b]
 ·rintro a _ ⟨c,g,b⟩;simp[-w4,-cm];have:=aaP t c (r:=r) J g (L:=(12,.bool false)::(11,.int .i64 (r.G.length:Int))::(10,.int .i64 (r.G.length:Int))::[(1,.int .i64 (n:Int)),(2,.pointer (some ⟨f,0,none⟩)),(9,.slice d r.G.length e),(5,.int .i64 a)]) (by simp);refine wp_mono (λ_ l ab h=>?_) this;rw[List.drop_length]at b;simpa [iM,<-b,hB]using h
end Go.Dam.C
namespace Go.Dam.C
open Go Go.Dam
variable{X:aA}{pm:Perm}{H ab bX ai:ae}{n:Nat}
theorem aaT:C.rZ=C.qx:=rfl
theorem MG{d:Nat}(j:Has X d C.qx)(g:bl pm H){v:Value}{m:Nat}{R:Nat->List Value->Prop}(l:dE H v m 5 R)(s:m<=1000000){f:FuncId}{c2 cs:Array Value}(Q:Nat->Bool)
 (n:∀i ab c,i<m->R i c->K pm H ab->Call X pm f (.agg c.toArray::cs.toList) ab λr bX=>K pm ab bX/\r=.bool (Q i)):
 Call X pm d [v,.func (.func f) c2 cs] H λr ab=>K pm H ab/\∃z:Int,r=.int .i64 z/\(0<=z↔∃i,i<m/\Q i=true):=by
 refine Call.hT j rfl ?_;obtain⟨o,p,rfl,q⟩:=l.at;simp[-Jr,-xC,-cm];refine er (σ:=Unit) m (λk _=>[(0,.slice o m p),(1,.func (.func f) c2 cs)]) (λk _ ab=>K pm H ab/\∀i,i<k->Q i=false) () (by simp) ⟨K.refl g,by simp⟩ ?_ ?_
 ·rintro k _ m a ⟨b,r⟩;obtain⟨_,_,_,_,c,rfl,d,j,l,o⟩:=q k a;simp[a,b.some g d,j,l,bA,-xC,-cm];refine vt.of (g:=f) (c2:=c2) (cs:=cs) (aq:=[.agg c.toArray]) (by simp) (by simp) (by simp) (n k m c a o b) ?_;rintro _ _ ⟨e,rfl⟩;cases h:Q k
  ·simp[-xC,-cm];refine⟨b.trans e,λi _=>?_⟩;by_cases c:i=k
   ·exact c▸h
   ·exact r i (by omega)
  ·simp[-xC];exact⟨b.trans e,k,a,h⟩
 ·rintro _ _ ⟨a,b⟩;simp;exact⟨a,λi a=>b i a⟩
theorem MF(a:fA X)(g:bl pm H){v:Value}{m:Nat}{R:Nat->List Value->Prop}(d:dE H v m 5 R)(e:m<=1000000){f:FuncId}{c2 cs:Array Value}(Q:Nat->Bool)
 (h:∀i ab c,i<m->R i c->K pm H ab->Call X pm f (.agg c.toArray::cs.toList) ab λr bX=>K pm ab bX/\r=.bool (Q i)) {t:Bool} (j:t=true↔∃i,i<m/\Q i=true):
 Call X pm F.qw [v,.func (.func f) c2 cs] H λr ab=>K pm H ab/\r=.bool t:=by
 refine Call.hT a.qw rfl ?_;simp;refine al.of (aq:=[v,.func (.func f) c2 cs]) (MG a.qx g d e Q h) ?_;rintro _ _ ⟨k,_,rfl,b⟩;rw[<-j]at b;simp;refine⟨k,?_⟩;cases t<;>simp at b|-<;>omega
theorem EH(a:fA X)(g:bl pm H){v:Value}{m:Nat}{R:Nat->List Value->Prop}(d:dE H v m 5 R)(e:m<=1000000){f:FuncId}{c2 cs:Array Value}(Q:Nat->Bool)
 (h:∀i ab c,i<m->R i c->K pm H ab->Call X pm f (.agg c.toArray::cs.toList) ab λr bX=>K pm ab bX/\r=.bool (Q i)) {t:Bool} (j:t=true↔∃i,i<m/\Q i=true):
 Call X pm F.pb [v,.func (.func f) c2 cs] H λr ab=>K pm H ab/\r=.bool t:=by
 refine Call.hT a.pb rfl ?_;simp;refine al.of (aq:=[v,.func (.func f) c2 cs]) (MG (aaT▸a.rZ) g d e Q h) ?_;rintro _ _ ⟨k,_,rfl,b⟩;rw[<-j]at b;simp;refine⟨k,?_⟩;cases t<;>simp at b|-<;>omega
def ar.I(aa:ar):Bool:=!(decide (100<aa.a.length)||decide (440<aa.rows.length))&&(aa.a.all h9&&aa.rows.all λr=>iM r aa.a.length)
structure ar.ok(aa:ar):Prop where
 c:aa.a.length<=20
 r:aa.rows.length<=40
 cs:∀c∈aa.a,c.ok
 rs:∀r∈aa.rows,r.ok
theorem qV(b:fA X)(g:bl pm H){v:Value}{aa:ar}(aY:kA H v aa)(m:aa.ok):Call X pm F.ki [v] H λr ab=>K pm H ab/\r=.bool aa.I:=by
 refine Call.hT b.ki rfl ?_;obtain⟨_,_,rfl,d,y⟩:=aY;obtain⟨q,s,rfl,_⟩:=d.at;obtain⟨u,v,rfl,_⟩:=y.at;have I:=m.c;have I:=m.r;obtain⟨n,w⟩:∃n,n=H.new (.cells [.slice q aa.a.length s,.slice u aa.rows.length v] (.t T.Rz)):=⟨_,rfl⟩;have e:K pm H n:=by rw[w];exact K.new g _
 have k:n.get H.next=some (.cells [.slice q aa.a.length s,.slice u aa.rows.length v] (.t T.Rz)):=by rw[w];exact cc
 obtain⟨o,z⟩:∃o,o=H.next:=⟨_,rfl⟩;rw[<-z]at k;simp[g.pick,g.make,ptr,<-w,<-z,k,-zA,-cm];by_cases l:100<aa.a.length
 ·simp[l,aR, -zA];exact⟨e,by simp[ar.I,l]⟩
 by_cases p:440<aa.rows.length
 ·simp[l,p,k,-zA];exact⟨e,by simp[ar.I,p]⟩
 have D:∀c∈aa.a,c.ok:=m.cs;have E:∀c∈aa.rows,c.ok:=m.rs;simp[l,p,k,-Ik,-cm];refine al.of (aI:=by simp;rfl) (aq:=[.slice q aa.a.length s,.func (.func F.rH) #[] #[]]) (MF b e.q (d.ext (e.ext g)) (by omega) (f:=F.rH) (cs:=#[]) (λi=>!((aa.a[i]?.map h9).getD true)) ?_ (t:=!aa.a.all h9) ?_) ?_
 ·rintro i x cs _ ⟨c,f,rfl⟩ h;refine Call.hT b.rH rfl ?_;have g:=K.new h.q (.cells c.cells (.t T.Ij));have m:(x.new (.cells c.cells (.t T.Ij))).get x.next=some (.cells c.cells (.t T.Ij)):=cc;simp[h.q.pick,h.q.make,ptr,bB,bA,show c.cells.length=5 from rfl];refine al.of (aI:=by simp[show c.cells.take 5=c.cells from rfl]) (aq:=[.agg c.cells.toArray]) (VL b g.q (D c (cX f))) ?_;rintro _ A ⟨a,rfl⟩;simp[f];exact g.trans a
 ·rw[ir,lz,Ne,eA];constructor
  ·intro f;simp only[Classical.not_forall]at f;obtain⟨c,d,g⟩:=f;obtain⟨i,f⟩:=u5 d;exact⟨i,(hZ.1 f).1,by simp[f,g]⟩
  ·rintro⟨i,f,g⟩ m;have:=m aa.a[i] (tn f);simp[en f,this]at g
 rintro _ x ⟨h,rfl⟩;have j:=e.trans h;have B:=h.some e.q k;cases C:aa.a.all h9
 ·simp[aR];refine al.not ?_;simp[aR];exact⟨j,by simp[ar.I,C]⟩
 simp[B];refine al.of (aq:=[.slice u aa.rows.length v,.func (.func F.qb) #[] #[.pointer (some ⟨o,0,none⟩)]]) (EH b j.q (y.ext (j.ext g)) (by omega) (f:=F.qb) (cs:=#[.pointer (some ⟨o,0,none⟩)]) (λi=>!((aa.rows[i]?.map λr=>iM r aa.a.length).getD true)) ?_ (t:=!aa.rows.all λr=>iM r aa.a.length) ?_) ?_
 ·rintro i A cs _ ⟨r,f,t,rfl,F⟩ a;refine Call.hT b.qb rfl ?_;have g:=K.new a.q (.cells (r.cells f) (.t T.Z9));have G:=(a.trans g).some j.q B;simp[a.q.pick,a.q.make,ptr,bB,bA,show(r.cells f).length=5 from rfl,G];refine al.of (aI:=by simp[show(r.cells f).take 5=r.cells f from rfl]) (aq:=[.agg (r.cells f).toArray,.int .i64 (aa.a.length:Int)]) (aaR b g.q (E r (cX t)) (F.ext ((a.trans g).ext j.q))) ?_;rintro _ _ ⟨H,rfl⟩;simp[t];exact g.trans H
 ·rw[ir,lz,Ne,eA];constructor
  ·intro h;simp only[Classical.not_forall]at h;obtain⟨c,d,c⟩:=h;obtain⟨i,b⟩:=u5 d;exact⟨i,(hZ.1 b).1,by simp[b,c]⟩
  ·rintro⟨i,b,c⟩ h;have:=h aa.rows[i] (tn b);simp[en b,this]at c
 rintro _ A ⟨a,rfl⟩;simp;exact⟨j.trans a,by simp[ar.I,C,l,p]⟩
structure tU(H:ae)(v:Value)(m:Nat)(P:Nat->Value->Prop):Prop where
 ex:∃base cap,v=.slice base m cap/\∀i,i<m->∃b off y row u,base=some ⟨b,off,none⟩/\H.get b=some y/\rowOf y=some row/\row[off+i]? = some u/\P i u
theorem tU.imp{v:Value}{m:Nat}{P a:Nat->Value->Prop}(h:tU H v m P)(a':Ext H ab)(b:∀i u,i<m->P i u->a i u):tU ab v m a:=by
 obtain⟨a,c,d,e⟩:=h.ex;exact⟨a,c,d,λi a=>by
  obtain⟨c,d,y,f,u,g,h,j,k,l⟩:=e i a;exact⟨c,d,y,f,u,g,a' _ _ h,j,k,b _ _ a l⟩⟩
def fp(H:ae)(v:Value)(l:List (List UInt8)):Prop:=tU H v l.length λi u=>∃s,l[i]? = some s/\u=ak s
def jM(H:ae)(v:Value)(m:Nat)(x:Nat->Rat):Prop:=tU H v m λi u=>b4 H u (x i)
theorem fp.ext{v:Value}{l:List (List UInt8)}(h:fp H v l)(a':Ext H ab):fp ab v l:=tU.imp h a' λ_ _ _=>id
theorem b4.ext{v:Value}{q:Rat}(h:b4 H v q)(a':Ext H ab):b4 ab v q:=let ⟨b,a,c⟩:=h;⟨b,a,a' _ _ c⟩
theorem jM.ext{v:Value}{m:Nat}{x:Nat->Rat}(h:jM H v m x)(a':Ext H ab):jM ab v m x:=tU.imp h a' λ_ _ _ h=>h.ext a'
def pF(H:ae)(v:Value)(w i:Nat)(ch:List Value):Option Nat->Prop
 | none=>i=0/\ch=[]/\v=.slice none 0 0
 | some c=>v=.slice (some ⟨c,0,none⟩) i i/\ch.length=i*w/\H.get c=some (.cells ch (.n w))
theorem pF.len{v:Value}{w i:Nat}{ch:List Value}{o:Option Nat}(g:pF H v w i ch o):ch.length=i*w:=by
 cases o with
 | none=>obtain⟨rfl,rfl,_⟩:=g;simp
 | some _=>exact g.2.1
theorem pF.ext{v:Value}{w i:Nat}{ch:List Value}{o:Option Nat}(g:pF H v w i ch o)(h:∀c y,o=some c->H.get c=some y->ab.get c=some y):pF ab v w i ch o:=by
 cases o with
 | none=>exact g
 | some c=>exact⟨g.1,g.2.1,h c _ rfl g.2.2⟩
@[simp] theorem ac4(v:Value):bB [v] 0 1=some [v]:=rfl
theorem G1(l:List Value):bB l 0 l.length=some l:=by simp[bB]
theorem E6(g:bl pm H){v:Value}{w i cR:Nat}{ch xs:List Value}{o:Option Nat}(e:pF H v w i ch o)(f:xs.all dd=true)(k:xs.length=w)(h:1<=w)(l:i<1000000)(l:cR<=200)(d:n<=H.next)(m:∀c,o=some c->n<=c/\pm.may c=true):
 ∃ab,(fj w cR v xs 1).run pm H=some (.slice (some ⟨H.next,0,none⟩) (i+1) (i+1),ab)/\pF ab (.slice (some ⟨H.next,0,none⟩) (i+1) (i+1)) w (i+1) (ch++xs) (some H.next)/\aC pm n H ab/\ab.next=H.next+1/\
  ∀b,b<H.next->o≠some b->ab.get b=H.get b:=by
 have a:(i+1)*cR<=17179869184:=a8 (nZ _ l) (by omega)
 cases o with
 | none=>
   obtain⟨rfl,rfl,rfl⟩:=e;refine⟨H.new (.cells xs (.n w)),?_,⟨rfl,by simp[k],cc⟩,aC.new (.refl g) d _,rfl,λb a _=>sY a⟩;unfold fj;simp at a;simp only[f];simp[g.make,g.pick,show cR<=17179869184 by omega,h]
 | some c=>
   obtain⟨rfl,n,j⟩:=e;obtain⟨o,p⟩:=m c rfl;have q:bB ch 0 (i*w)=some ch:=by rw[<-n];exact G1 ch
   refine⟨(H.put c .dead).new (.cells (ch++xs) (.n w)),?_,⟨rfl,by grind,cc⟩,aC.new (aC.put (.refl g) o j (by simp) .dead) d _,rfl,λb a d=>by rw[sY (show b<(H.put c .dead).next from a),a6 (λe=>d (by rw[e]))]⟩;unfold fj;simp only[f];simp[g.make,g.pick,a,j,q,p,h,show ¬(i+1<=i) by omega,show i+1<=17179869184 by omega]
def kx(pm:Perm)(n:Nat)(H:ae)(v:Value)(i:Nat)(x:Nat->Rat):Prop:=∃a o,pF H v 1 i a o/\(∀c,o=some c->n<=c/\pm.may c=true)/\∀j,j<i->∃p,a[j]? = some p/\b4 H p (x j)
theorem kx.nil{x:Nat->Rat}:kx pm n H (.slice none 0 0) 0 x:=⟨[],none,⟨rfl,rfl,rfl⟩,by simp,by simp⟩
theorem kx.row{v:Value}{i:Nat}{x:Nat->Rat}(h:kx pm n H v i x):jM H v i x:=by
 obtain⟨b,o,a,_,c⟩:=h
 cases o with
 | none=>
   obtain⟨rfl,_,rfl⟩:=a;exact⟨none,0,rfl,λi d=>absurd d (gS _)⟩
 | some d=>
   obtain⟨rfl,_,e⟩:=a;refine⟨_,_,rfl,λj a=>?_⟩;obtain⟨p,f,g⟩:=c j a;exact⟨d,0,_,b,p,rfl,e,rfl,by simpa using f,g⟩
theorem kx.k{v:Value}{i:Nat}{x:Nat->Rat}(h:kx pm n H v i x)(g:bl pm H)(k:K pm H ab):kx pm n ab v i x:=by
 obtain⟨a,o,b,c,d⟩:=h;exact⟨a,o,b.ext λ_ _ _ e=>k.some g e,c,λj a=>(d j a).imp λ_ q=>⟨q.1,q.2.up k⟩⟩
theorem kx.app{v:Value}{i cR:Nat}{x:Nat->Rat}(h:kx pm n H v i x)(g:bl pm H){p:Value}{q:Rat}(b:b4 H p q)(f:i<1000000)(k:cR<=200)(l:n<=H.next):
 ∃ab,(fj 1 cR v [p] 1).run pm (H.new (.cells [p] (.n 1)))=some (.slice (some ⟨H.next+1,0,none⟩) (i+1) (i+1),ab)/\kx pm n ab (.slice (some ⟨H.next+1,0,none⟩) (i+1) (i+1)) (i+1) (λj=>if j=i then q else x j)/\aC pm n H ab:=by
 obtain⟨_,_,c,m,o⟩:=h;have a:=K.new g (.cells [p] (.n 1));obtain⟨d,rfl,_⟩:=id b;obtain⟨ab,r,s,t,_,_⟩:=E6 a.q (cR:=cR) (n:=n) (c.ext λw _ _ e=>a.some g e) (xs:=[.pointer (some ⟨d,0,none⟩)]) rfl rfl (bc _) f k (by show n<=H.next+1;omega) m;have u:=(a.mono l).trans t;refine⟨ab,r,⟨_,_,s,λw y=>?_,λj _=>?_⟩,u⟩
 ·cases y;exact⟨by show n<=H.next+1;omega,g.may (by simp_all)⟩
 ·have a:=c.len;by_cases e:j=i
  ·subst e;refine⟨.pointer (some ⟨d,0,none⟩),?_,by simpa using b.up u⟩;grind
  ·obtain⟨r,_,a⟩:=o j (by omega);exact⟨r,by grind,by simpa [e]using a.up u⟩
def bU(l:List (List UInt8))(i:Nat):Rat:=rd (l.getD i [])
theorem zu(f:fA X)(g:bl pm H){v:Value}{l:List (List UInt8)}{e:Int}(p:fp H v l)(aY:l.length<1000000)(t:∀s∈l,s.length<1000000):
 Call X pm F.mQ [v,.int .i64 e] H λr ab=>K pm H ab/\(l.all isNum=false/\r=.tuple #[.slice none 0 0,.bool false]∨l.all isNum=true/\∃u,r=.tuple #[u,.bool (decide ((l.length:Int)=e))]/\jM ab u l.length (bU l)):=by
 refine Call.hT f.mQ rfl ?_;obtain⟨i,j,rfl,w⟩:=p.ex;simp[-IC,-w3,-cm]
 refine er (σ:=Value) l.length (λk u=>[(0,.slice i l.length j),(1,.int .i64 e),(6,u),(11,.slice i l.length j)])
  (λk u ab=>K pm H ab/\(l.take k).all isNum=true/\kx pm H.next ab u k (bU l)) (.slice none 0 0) (by simp) ⟨K.refl g,by simp,kx.nil⟩ ?_ ?_
 ·rintro k u _ m ⟨c,n,r⟩;obtain⟨_,_,_,_,_,rfl,v,x,y,s,d,rfl⟩:=w k m;have e:=t s (cX d);have z:l.take (k+1)=l.take k++[s]:=by rw[List.take_add_one,d];rfl
  have u:bU l k=rd s:=by simp[bU,List.getD,d]
  simp[m,c.some g v,x,y,-w3,-cm];refine al.of (aq:=[ak s]) (qS f.toEL c.q e) ?_;rintro _ _ ⟨a,⟨h,rfl⟩ | ⟨q,_,h,rfl,o⟩⟩
  ·simp[-w3];refine⟨c.trans a,.inl ⟨s,cX d,by simp[isNum,h]⟩⟩
  ·obtain⟨_,s,g,A⟩:=(r.k c.q a).app (cR:=8) a.q o (by omega) (by omega) (c.trans a).next;have d:bU l k=q:=by rw[u];simp[rd,h]
   have d:(λj=>if j=k then q else bU l j)=bU l:=by
    funext j;by_cases e:j=k
    ·grind
    ·simp[e]
   rw[d]at g;obtain⟨_,rfl,_⟩:=id o;simp[a.q.pick,a.q.make,fill,setCells,s,-w3,-cm];rw[eA]at n;refine⟨aC.trans (c.trans a) A,λB b=>?_,g⟩;rw[z,fc]at b
   rcases b with b | b
   ·exact n B b
   ·simp at b;subst b;simp[isNum,h]
 ·rintro u _ ⟨b,a,c⟩;rw[xj]at a;simp;refine⟨b,.inr ⟨by simpa using a,u,⟨rfl,?_⟩,c.row⟩⟩;rfl
def gM:List dL->(Nat->Rat)->Rat
 | [],_=>0
 | c::l,x=>gM l x+rd c.v*x c.ad.toNat
def pY(a c:Int):Bool:=if a=1 then decide (c<=0) else if a=3 then decide (0<=c) else decide (c=0)
theorem Pk(e:fA X){a c:Int}:Call X pm F.qg [.int .i64 a,.int .i64 c] H λr ab=>ab=H/\r=.bool (pY a c):=by
 refine Call.hT e.qg rfl ?_;by_cases b:a=1
 ·subst b;simp[pY,<-Int.not_lt]
 ·by_cases d:a=3
  ·subst d;simp[pY,<-Int.not_lt]
  ·have e:(a==1)=false:=by simpa using b
   have f:(a==3)=false:=by simpa using d
   simp[e,f,pY,b,d];by_cases h:c=0<;>simp[h]
theorem Oy(l:List dL)(c:dL)(x:Nat->Rat):gM (l++[c]) x=gM l x+rd c.v*x c.ad.toNat:=by
 induction l with
 | nil=>simp[gM]
 | cons _ l ih=>simp only[mW,gM,ih];grind
theorem GC{l:List dL}{x:Nat->Rat}{t:Nat}(aY:∀c∈l,c.ok/\aV (x c.ad.toNat) t):aV (gM l x) (l.length*(t+10001)+1):=by
 induction l with
 | nil=>exact qB (av:=by simp)
 | cons c l ih=>
   obtain⟨a,b⟩:=aY c (.head _);refine dY (vi (ih λd e=>aY d (.tail _ e)) (jk (hf (k:=10000) a) b)) ?_;simp only[iK,j0];omega
structure Ex(l:List dL)(n:Nat):Prop where
 len:l.length<=1000
 all:∀c∈l,c.ok/\isNum c.v=true/\0<=c.ad/\c.ad<n
theorem Tg(f:fA X)(g:bl pm H){v w:Value}{l:List dL}{x:Nat->Rat}{t:Nat}(L:kz H v l)(M:jM H w n x)(s:Ex l n)(N:t<=20000)(z:∀i,i<n->aV (x i) t):
 Call X pm F.qh [v,w] H λr ab=>K pm H ab/\b4 ab r (gM l x):=by
 refine Call.hT f.qh rfl ?_;have aY:=s.len;obtain⟨O,P,rfl,Q⟩:=L.at;obtain⟨R,S,rfl,U⟩:=M.ex;have V:∀k,aV (gM (l.take k) x) 31000000:=λk=>by
  refine dY (GC (t:=t) λc a=>?_) ?_
  ·obtain⟨b,_,_,_⟩:=s.all c (tt a);exact⟨b,z _ (by omega)⟩
  ·have a:(l.take k).length<=1000:=a8 (List.take_sublist _ _).length_le aY;have b:t+10001<=30001:=by omega
   have c:(l.take k).length*(t+10001)<=30001000:=a8 (gk a b) (by decide);exact a8 (zN c) (by decide)
 simp[-C6,-C5,-cm];refine al.of (aq:=[.int .i64 0]) (ml f.toEL g (n:=0) (by omega) (by omega)) ?_;rintro L _ ⟨M,W⟩;simp[-C6,-C5,-cm]
 refine er (σ:=Value) l.length (λk u=>[(1,.slice R n S),(5,u),(9,.slice O l.length P)])
  (λk u ab=>K pm H ab/\b4 ab u (gM (l.take k) x)) L (by simp) ⟨M,by simpa [gM]using W⟩ ?_ ?_
 ·rintro k u h A ⟨i,X⟩;obtain⟨Y,_,Z,_,_,rfl,e2,e3,e4,c,B,rfl⟩:=Q k A;obtain⟨r,h2,_,_⟩:=s.all c (cX B);have p:c.ad.toNat<n:=by omega
  obtain⟨_,_,_,_,C,rfl,t,v,D,E⟩:=U _ p;obtain⟨j,hj⟩:∃j:Nat,c.ad=(j:Int):=⟨c.ad.toNat,by omega⟩;have F:c.ad.toNat=j:=by omega
  rw[F]at p D E;have d:=i.q;have w:=i.some g e2;have aa:=i.some g t;obtain⟨e,y⟩:∃e,e=(h.new (.cells [.int .i64 0,.string ⟨#[]⟩] (.t T.C4))).put h.next (.cells [.int .i64 c.ad,ak c.v] (.t T.C4)):=⟨_,rfl⟩;have m:K pm h e:=by rw[y];exact gh d _ _
  have G:e.get h.next=some (.cells [.int .i64 c.ad,ak c.v] (.t T.C4)):=by rw[y];exact bO
  have s:(h.new (.cells [.int .i64 0,.string ⟨#[]⟩] (.t T.C4))).get Y=some Z:=by rw[sY (d.lt w)];exact w
  have a:=m.q;have H:=m.some d aa;simp[A,w,e3,e4,dL.cells,d.pick,d.make,d.may (bc _),ptr,bA,<-y];refine cx.of a.ah rfl ?_;have q:K pm e (e.up 12):=(K.refl a).up 12;have ab:=a.lt G;have ad:=a.lt H;simp[b8,a.none,a.O,G,hj,p,H,v,D];refine cY q.q (aq:=[ak c.v]) (by simp[a.none]) rfl (λI n=>o' (aY:=by have:=r;unfold dL.ok at this;omega) f n h2) ?_;rintro d e b f1;have h:=b.res a;simp;have ae:b4 e C (x j):=((E.ext (i.ext g)).up m).up (q.trans b);have J:=z j p;refine fG b.q (aq:=[d,C]) (by simp[h]) rfl (λI n=>og f.toEL n f1.of ae.of (jf r) (J.bo (a8 N (by decide)))) ?_;rintro d _ o t;have e:=(K.trans b o).res a;simp;have af:aV (rd c.v*x j) 30000:=dY (jk (hf (k:=10000) r) J) (by omega);refine fG o.q (aq:=[u,d]) (by simp[e]) rfl (λI n=>n8 f.toEL n ((((X.up m).up q).up b).up o).of t.of ((V k).bo (by decide)) (af.bo (by decide))) ?_;rintro e f d v;have h:=(K.trans (K.trans b o) d).res a;have a:l.take (k+1)=l.take k++[c]:=by rw[List.take_add_one,B];rfl
  have c:b4 f e (gM (l.take (k+1)) x):=by rw[a,Oy,F];exact v
  simp[h,b3,bZ,ab,ad,fT,cU,l0];exact⟨i.trans (m.trans (q.trans (b.trans (o.trans d)))),c⟩
 ·rintro u _ ⟨b,a⟩;rw[xj]at a;simp;exact⟨b,a⟩
def ar.ad(aa:ar)(i:Nat):a1:=aa.a.getD i ⟨[],[],[],[],false⟩
def aS(f:Nat->Rat):Nat->Rat
 | 0=>0
 | n+1=>aS f n+f n
theorem xL{f:Nat->Rat}{t:Nat}:∀{n:Nat},(∀i,i<n->aV (f i) t)->aV (aS f n) (n*(t+1)+1)
 | 0,_=>qB (av:=by simp)
 | n+1,h=>by
   refine dY (vi (xL λi _=>h i (by omega)) (h n (by omega))) ?_;rw[j0];omega
def ar.P(aa:ar)(x:Nat->Rat):Rat:=aS (λi=>rd (aa.ad i).cost*x i) aa.a.length
theorem ar.q7{aa:ar}{i:Nat}{c:a1}(h:aa.a[i]? = some c):aa.ad i=c:=by simp[ar.ad,List.getD,h]
theorem F'{c:a1}(h:h9 c=true):isNum c.cost=true:=by simp[h9]at h;exact h.1
theorem uJ{aa:ar}(h:aa.I=true){c:a1}(a:c∈aa.a):h9 c=true:=by simp[ar.I]at h;exact h.2.1 c a
theorem uK{aa:ar}(h:aa.I=true){r:b9}(a:r∈aa.rows):iM r aa.a.length=true:=by simp[ar.I]at h;exact h.2.2 r a
theorem z8{xs:List (List UInt8)}(h:∀s∈xs,s.length<=10000)(i:Nat):aV (bU xs i) 10000:=by
 unfold bU;rw[e5]
 cases e:xs[i]? with
 | none=>exact hf (by simp)
 | some s=>exact hf (h s (cX e))
theorem Oc(e:fA X)(g:bl pm H){v w:Value}{aa:ar}{x:Nat->Rat}{t:Nat}(y:kA H v aa)(q:aa.ok)(Z:aa.I=true)(hw:jM H w aa.a.length x)(ht:t<=20000)(D:∀i,i<aa.a.length->aV (x i) t):
 Call X pm F.qf [v,w] H λr ab=>K pm H ab/\b4 ab r (aa.P x)/\aV (aa.P x) 700000:=by
 refine Call.hT e.qf rfl ?_;obtain⟨_,E,rfl,hc,_⟩:=y;obtain⟨s,t,rfl,ad⟩:=hc.at;obtain⟨ae,af,rfl,ag⟩:=hw.ex;have y:=q.c;have G:∀i,i<aa.a.length->aV (rd (aa.ad i).cost*x i) 30000:=λi y=>by
  have a:aa.a[i]? = some (aa.ad i):=by rw[ar.ad,e5,en y];rfl
  exact dY (jk (hf (k:=10000) (q.cs _ (cX a)).2.2) (D i y)) (by omega)
 have I:∀k,k<=aa.a.length->aV (aS (λi=>rd (aa.ad i).cost*x i) k) 700000:=λk b=>
  dY (xL λi y=>G i (by omega)) (by omega)
 obtain⟨m,z⟩:∃m,m=H.new (.cells [.slice s aa.a.length t,E] (.t T.RE)):=⟨_,rfl⟩;have A:K pm H m:=by rw[z];exact K.new g _
 have J:m.get H.next=some (.cells [.slice s aa.a.length t,E] (.t T.RE)):=by rw[z];exact cc
 obtain⟨B,L⟩:∃B,B=H.next:=⟨_,rfl⟩;rw[<-L]at J;simp[g.pick,g.make,ptr,<-z,<-L,-IA,-C1,-cm];refine al.of (aq:=[.int .i64 0]) (ml e.toEL A.q (n:=0) (by omega) (by omega)) ?_;rintro m H2 ⟨o,y⟩;simp[o.some A.q J,-C1,-Iz,-cm]
 refine er (σ:=Value) aa.a.length (λk u=>[(1,.slice ae aa.a.length af),(5,u),(10,.slice s aa.a.length t)])
  (λk u ab=>K pm H ab/\b4 ab u (aS (λi=>rd (aa.ad i).cost*x i) k)) m (by simp) ⟨A.trans o,by simpa [aS]using y⟩ ?_ ?_
 ·rintro k u n b ⟨f,hu⟩;obtain⟨B,_,_,_,_,rfl,e2,e3,e4,F,H,rfl⟩:=ad k b;obtain⟨_,_,_,_,M,rfl,r,v,f4,f5⟩:=ag k b;have m:=cX H;have N:=F' (uJ Z m);have O:=(q.cs F m).2.2;have h:=f.q;have aa:=f.some g e2;have ab:=f.some g r;obtain⟨P,Q,R,w,S⟩:=F;simp only at O N;obtain⟨d,C⟩:∃d,d=(n.new (.cells [.string ⟨#[]⟩,.string ⟨#[]⟩,.string ⟨#[]⟩,.string ⟨#[]⟩,.bool false] (.t T.Iy))).put n.next (.cells [ak P,ak Q,ak R,ak w,.bool S] (.t T.Iy)):=⟨_,rfl⟩;have i:K pm n d:=by rw[C];exact gh h _ _
  have U:d.get n.next=some (.cells [ak P,ak Q,ak R,ak w,.bool S] (.t T.Iy)):=by rw[C];exact bO
  have a:=i.q;have V:=i.some h ab;simp[b,aa,e3,e4,a1.cells,h.pick,h.make,h.may (bc _),ptr,bA,<-C];refine cx.of a.ah rfl ?_;have p:K pm d (d.up 11):=(K.refl a).up 11;have ah:=a.lt U;have ai:=a.lt V;simp[b8,a.none,a.O,U,b,V,v,f4];refine cY p.q (aq:=[ak w]) (by simp[a.none]) rfl (λW j=>o' e j N) ?_;rintro d h c f1;have m:=c.res a;simp;have aj:b4 h M (x k):=((f5.ext (f.ext g)).up i).up (p.trans c);have al:=D k b;refine fG c.q (aq:=[d,M]) (by simp[m]) rfl (λW j=>og e.toEL j f1.of aj.of (jf O) (al.bo (a8 ht (by decide)))) ?_;rintro d _ l r;have h:=(K.trans c l).res a;simp;have X:=ar.q7 H;have Y:=G k b;rw[X]at Y;refine fG l.q (aq:=[u,d]) (by simp[h]) rfl (λW j=>n8 e.toEL j ((((hu.up i).up p).up c).up l).of r.of ((I k (by omega)).bo (by decide)) (Y.bo (by decide))) ?_;rintro _ _ b v;have d:=(K.trans (K.trans c l) b).res a;simp[d,b3,bZ,ah,ai,fT,cU,l0];refine⟨f.trans (i.trans (p.trans (c.trans (l.trans b)))),?_⟩;simp only[aS,X];exact v
 ·rintro u H2 ⟨o,a⟩;simp;exact⟨o,a,I _ (bc _)⟩
def dJ(aa:ar)(xs:List (List UInt8))(m:Nat):Bool:=xs.all isNum&&(decide (xs.length=m)&&aa.I)
def gy(aa:ar)(xs:List (List UInt8)):Option Rat:=if dJ aa xs aa.a.length=true then some (aa.P (bU xs)) else none
def lG:Option Rat->Value
 | some q=>.tuple #[ak (bk q),.bool true]
 | none=>.tuple #[ak [],.bool false]
structure jO(xs:List (List UInt8)):Prop where
 len:xs.length<1000000
 all:∀s∈xs,s.length<=10000
theorem jO.lt{xs:List (List UInt8)}(h:jO xs):∀s∈xs,s.length<1000000:=λs a=>dk (h.all s a) (by decide)
theorem M8(b:fA X)(g:bl pm H){v w:Value}{aa:ar}{xs:List (List UInt8)}(q:kA H v aa)(s:aa.ok)(A:fp H w xs)(k:jO xs):
 Call X pm F.qc [v,w] H λr ab=>K pm H ab/\r=lG (gy aa xs):=by
 refine Call.hT b.qc rfl ?_;have u:=q;obtain⟨_,d,rfl,B,_⟩:=q;obtain⟨e,f,rfl,_⟩:=B.at;obtain⟨h,l⟩:∃h,h=H.new (.cells [.slice e aa.a.length f,d] (.t T.RB)):=⟨_,rfl⟩;have c:K pm H h:=by rw[l];exact K.new g _
 have a':h.get H.next=some (.cells [.slice e aa.a.length f,d] (.t T.RB)):=by rw[l];exact cc
 obtain⟨h,x⟩:∃h,h=H.next:=⟨_,rfl⟩;rw[<-x]at a';simp[g.pick,g.make,ptr,<-l,<-x,a',-Is,-cm];refine al.of (aq:=[w,.int .i64 (aa.a.length:Int)]) (zu b c.q (A.ext (c.ext g)) k.len k.lt) ?_;rintro _ _ ⟨a,⟨m,rfl⟩ | ⟨m,C,rfl,y⟩⟩
 ·simp[aR];refine al.not ?_;simp[aR];exact⟨c.trans a,by simp[gy,dJ,m,lG]⟩
 have z:=a.some c.q a';have n:=c.trans a;by_cases i:xs.length=aa.a.length
 ·simp[i,z,bB,bA,-Ir];refine al.of (aq:=[.agg #[.slice e aa.a.length f,d]]) (qV b a.q (u.ext (n.ext g)) s) ?_;rintro _ _ ⟨j,rfl⟩;have o:=n.trans j;have v:=j.some a.q z;cases p:aa.I
  ·simp;exact⟨o,by simp[gy,dJ,p,lG]⟩
  ·rw[i]at y;simp[v,bB,bA];refine al.of (aq:=[.agg #[.slice e aa.a.length f,d],C]) (Oc b j.q (u.ext (o.ext g)) s p (y.ext (j.ext a.q)) (t:=10000) (by decide) λa _=>z8 k.all a) ?_;rintro a _ ⟨r,c,d⟩;simp;refine al.of (aq:=[a]) (mn b.toEL r.q c.of (d.bo (by decide))) ?_;rintro _ _ ⟨rfl,rfl⟩;simp;exact⟨o.trans r,by simp[gy,dJ,p,m,i,lG]⟩
 ·have:¬((xs.length:Int)=(aa.a.length:Int)):=by omega
  simp[this,aR];refine al.not (a':=by simp) ?_;simp[aR];exact⟨n,by simp[gy,dJ,i,lG]⟩
theorem yX{pm:Perm}{c:Nat}:∀{l:List Value},(∀a,.pointer (some a)∈l->a.block≠c)->c6 (dj pm l) [c]=true
 | [],_=>rfl
 | v::l,h=>by
   have ih:=yX (pm:=pm) (c:=c) (l:=l) λa b=>h a (.tail _ b)
   cases v with
   | pointer o=>
     cases o with
     | none=>exact ih
     | some a=>
       simp only[dj]
       cases pm.may a.block with
       | false=>exact ih
       | true=>
         simp only[cond_true,c6,qp,bK];exact⟨by simp[h a (.head _)],ih⟩
   | _=>exact ih
theorem b4.ne{p:Value}{q:Rat}(h:b4 H p q){c:Nat}{cs:List Value}{z:cM}(d:H.get c=some (.cells cs z)):∀a,p=.pointer (some a)->a.block≠c:=by
 obtain⟨_,rfl,b⟩:=h;rintro a e rfl;cases e;rw[d]at b;cases b
theorem kI{p q:Value}{x y:Rat}(b7:b4 H p x)(cH:b4 H q y){c:Nat}{cs:List Value}{z:cM}(b:H.get c=some (.cells cs z))(m:Perm):c6 (dj m [p,q]) [c]=true:=yX λd a=>by
 rcases hH.1 a with e | a
 ·exact b7.ne b d e.symm
 ·rcases hH.1 a with e | a
  ·exact cH.ne b d e.symm
  ·cases a
theorem jT{p:Value}{x:Rat}(b7:b4 H p x){c:Nat}{cs:List Value}{z:cM}(b:H.get c=some (.cells cs z))(m:Perm):c6 (dj m [p]) [c]=true:=yX λd a=>by
 rcases hH.1 a with e | a
 ·exact b7.ne b d e.symm
 ·cases a
theorem yP{n:Nat}:∀{l:List dL} {last:Int},hB n last l=true->(∀c∈l,isNum c.v=true/\last<c.ad/\c.ad<n)/\(l≠[]->(l.length:Int)+last<n)
 | [],_,_=>⟨by simp,by simp⟩
 | c::l,last,h=>by
   simp only[hB,bK,cP]at h;obtain⟨b,_,d,f,g⟩:=h;obtain⟨i,j⟩:=yP g;refine⟨λk a=>?_,λ_=>?_⟩
   ·rcases hH.1 a with rfl | a
    ·exact⟨b,d,f⟩
    ·obtain⟨b,_,c⟩:=i k a;exact⟨b,by omega,c⟩
   ·by_cases e:l=[]
    ·subst e;simp;omega
    ·have:=j e;simp only[iK];omega
theorem xx{r:b9}{n:Nat}(h:iM r n=true)(b:r.ok)(a:n<=20):Ex r.G n/\isNum r.rhs=true/\1<=r.kind/\r.kind<=3:=by
 simp only[iM,bK,cP]at h;obtain⟨a,d,_,e,f⟩:=h;obtain⟨g,i⟩:=yP a;refine⟨⟨?_,λc a=>?_⟩,d,e,f⟩
 ·by_cases e:r.G=[]
  ·simp[e]
  ·have:=i e;omega
 ·obtain⟨d,_,e⟩:=g c a;exact⟨b.2.2 c a,d,by omega,e⟩
theorem Oz{l:List dL}{x:Nat->Rat}{t n:Nat}(a:Ex l n)(b:t<=20000)(b:∀i,i<n->aV (x i) t):aV (gM l x) 31000000:=by
 refine dY (GC (t:=t) λc d=>?_) ?_
 ·obtain⟨e,_,_,_⟩:=a.all c d;exact⟨e,b _ (by omega)⟩
 ·have b:t+10001<=30001:=by omega
  exact a8 (zN (a8 (gk a.len b) (by decide:1000*30001<=30001000))) (by decide)
def oL(c:a1)(q:Rat):Bool:=!((!c.low.isEmpty&&decide (q<rd c.low))||(!c.up.isEmpty&&decide (rd c.up<q)))
def sP(aa:ar)(x:Nat->Rat):Nat->Bool
 | 0=>true
 | k+1=>sP aa x k&&oL (aa.ad k) (x k)
def vc(x:Nat->Rat)(r:b9):Bool:=pY r.kind (iF (gM r.G x) (rd r.rhs))
def y3(aa:ar)(x:Nat->Rat):Bool:=sP aa x aa.a.length&&aa.rows.all (vc x)
theorem Gb{aa:ar}{x:Nat->Rat}:∀{k:Nat},sP aa x k=true↔∀i,i<k->oL (aa.ad i) (x i)=true
 | 0=>by simp[sP]
 | k+1=>by
   rw[sP,bK,Gb];constructor
   ·rintro⟨a,b⟩ i _;by_cases e:i=k
    ·exact e▸b
    ·exact a i (by omega)
   ·intro h;exact⟨λi _=>h i (by omega),h k (by omega)⟩
theorem Uk(f:fA X)(g:bl pm H){r:b9}{cj u:Value}{x:Nat->Rat}{t b:Nat}{z:cM}(v:r.ok)(M:n<=20)(N:iM r n=true)(l:kz H cj r.G)(w:jM H u n x)(O:H.get b=some (.cells [u] z))(y:t<=20000)(A:∀i,i<n->aV (x i) t):
 Call X pm F.oV [.agg (r.cells cj).toArray,.pointer (some ⟨b,0,none⟩)] H λq ab=>K pm H ab/\q=.bool (!vc x r):=by
 refine Call.hT f.oV rfl ?_;obtain⟨o,z,P,Q⟩:=xx N v M;have B:=Oz o y A;have C:=v.1;obtain⟨d,p⟩:∃d,d=H.new (.cells (r.cells cj) (.t T.Ry)):=⟨_,rfl⟩;have h:K pm H d:=by rw[p];exact K.new g _
 have k:d.get H.next=some (.cells (r.cells cj) (.t T.Ry)):=by rw[p];exact cc
 obtain⟨v,D⟩:∃v,v=H.next:=⟨_,rfl⟩;rw[<-D]at k;have a:=h.q;have E:=h.some g O;simp[g.pick,g.make,ptr,<-p,<-D,-cm];refine cx.of a.ah rfl ?_;have i:K pm d (d.up 13):=(K.refl a).up 13;have R:=a.lt k;have S:=a.lt E;obtain⟨_,U,G,I,_⟩:=r;simp only at C z P Q B o;simp[b8,a.none,a.O,k,E,b9.cells];refine cY i.q (aq:=[cj,u]) (by simp[a.none]) rfl (λs c=>Tg f c (l.ext ((h.trans i).ext g)) (w.ext ((h.trans i).ext g)) o y A) ?_;rintro V _ j W;have d:=j.res a;simp;refine cY j.q (aq:=[ak I]) (by simp[d]) rfl (λs c=>o' f c z) ?_;rintro d _ e J;have t:=(K.trans j e).res a;simp;have L:=W.up e;refine cY e.q (aq:=[V,d]) (by simp[t]) rfl (λs c=>g' c (k7 f.toEL c L.of J.of (B.bo (by decide)) (jf C))) ?_;rintro _ _ _ ⟨rfl,rfl⟩;simp;refine fG e.q (aq:=[.int .i64 U,.int .i64 (iF (gM G x) (rd I))]) (by simp[t]) rfl (λs c=>g' c (Pk f)) ?_;rintro _ _ _ ⟨rfl,rfl⟩;have c:=(i.trans (K.trans j e)).some a k;have Y:=λm=>kI L J c m;have a:=l;obtain⟨Z,cp,rfl,_⟩:=l.at;obtain⟨aa,ad,rfl,_⟩:=w.ex;have hp:∀m,dj m [.slice Z G.length cp,.slice aa n ad]=[]:=λm=>rfl;simp[t,b3,bZ,R,S,fT,cU,l0,Y,hp,vc];exact i.trans (K.trans j e) |> h.trans
theorem N8(c:a1)(h:h9 c=true):(c.low.isEmpty=false->isNum c.low=true)/\(c.up.isEmpty=false->isNum c.up=true):=by
 simp[h9]at h;grind
theorem Ul(i:fA X)(l:K pm ai H){c:a1}(O:h9 c=true)(P:c.ok){b d:Nat}{z R:cM}{I:Option Addr}{cap k:Nat}{x:Nat->Rat}(m:H.get b=some (.cells c.cells z))(s:H.get d=some (.cells [.slice I n cap] R))(R:jM H (.slice I n cap) n x)(av:k<n)(A:bo (x k)=true)
 {L:bn} (z:aF 5 L=some (.pointer (some ⟨d,0,none⟩))) (B:aF 7 L=some (.int .i64 (k:Int))) (n:aF 8 L=some (.pointer (some ⟨b,0,none⟩))) {Q:cl}
 (p:∀aU ab,K pm ai ab->K pm H ab->aF 61 aU=some (.bool (!oL c (x k)))->(∀j,j<32->aF j aU=aF j L)->wp X pm (.code hU) aU ab [] Q):wp X pm (.code CY) L H [] Q:=by
 have g:=l.q;obtain⟨_,C,t,_,_⟩:=c;obtain⟨J,D,I⟩:=P;obtain⟨u,h⟩:=N8 _ O;simp only at J D I u h;obtain⟨_,_,S,T⟩:=R.ex;cases S;obtain⟨_,_,_,_,E,rfl,v,F,G,M⟩:=T k av;have e:K pm H (H.up 30):=(K.refl g).up 30;have q:=g.lt m;have w:=g.lt s;have y:=g.lt v;simp[-hU];refine cx.of g.ah rfl ?_;cases f:C.isEmpty
 ·have u:=u f;simp[b8,g.none,g.O,m,s,a1.cells,z,B,n,eM,f,av,v,F,G,-hU];refine cY e.q (aq:=[ak C]) (by simp[g.none]) rfl (λH b=>o' i b u) ?_;rintro u _ d Q;have a:=d.res g;have L:=(M.up e).up d;simp[-hU];refine fG d.q (aq:=[E,u]) (by simp[a]) rfl (λH b=>g' b (k7 i.toEL b L.of Q.of A (jf J))) ?_;rintro _ _ _ ⟨rfl,rfl⟩;have c:=e.trans d;have N:=c.some g m;have U:=c.some g s;have V:=c.some g v;by_cases o:x k<rd C
  ·simp[a,kb,o,aR,-hU];refine d'.not (by simp[a]) ?_;simp[aR,-hU];refine d'.not (by simp[a]) ?_;simp[a,aR,b3,bZ,q,w,y,fT,cU,l0,-hU];refine p _ _ (l.trans c) c (by simp[oL,f,o]) λj _=>?_;simp[show ∀k,32<=k->j≠k from λk _=>by omega]
  ·cases k:t.isEmpty
   ·have h:=h k;simp[a,kb,o, a1.cells,N,U,av,V,F,G,eM,k,z,B,n,-hU];refine cY d.q (aq:=[ak t]) (by simp[a]) rfl (λH b=>o' i b h) ?_;rintro u _ r W;have x:=(K.trans d r).res g;simp[-hU];refine fG r.q (aq:=[E,u]) (by simp[x]) rfl (λH b=>g' b (k7 i.toEL b (L.up r).of W.of A (jf D))) ?_;rintro _ _ _ ⟨rfl,rfl⟩;simp[x, nz,b3,bZ,q,w,y,fT,cU,l0,-hU];refine p _ _ (l.trans (c.trans r)) (c.trans r) (by simp[oL,f,k,o]) λj _=>?_;simp[show ∀b,32<=b->j≠b from λb _=>by omega]
   ·simp[a,kb,o,aR,a1.cells,N,eM,k,n,-hU];refine d'.not (by simp[a]) ?_;simp[aR,-hU];refine d'.not (by simp[a]) ?_;simp[a,aR,b3,bZ,q,w,y,fT,cU,l0,-hU];refine p _ _ (l.trans c) c (by simp[oL,f,k,o]) λj _=>?_;simp[show ∀a,32<=a->j≠a from λa _=>by omega]
 ·simp[b8,g.none,g.O,m, a1.cells,  n,eM,f,-hU];refine d'.not (by simp[g.none]) ?_;simp[aR,-hU];refine d'.not (by simp[g.none]) ?_;cases a:t.isEmpty
  ·have h:=h a;simp[g.none,aR,m,s,a1.cells,av,v,F,G,eM,a,z,B,n,-hU];refine cY e.q (aq:=[ak t]) (by simp[g.none]) rfl (λk c=>o' i c h) ?_;rintro h _ b o;have d:=b.res g;simp[-hU];refine fG b.q (aq:=[E,h]) (by simp[d]) rfl (λk c=>g' c (k7 i.toEL c ((M.up e).up b).of o.of A (jf D))) ?_;rintro _ _ _ ⟨rfl,rfl⟩;simp[d, nz,b3,bZ,q,w,y,fT,cU,l0,-hU];refine p _ _ (l.trans (e.trans b)) (e.trans b) (by simp[oL,f,a]) λj _=>?_;simp[show ∀i,32<=i->j≠i from λi _=>by omega]
  ·simp[g.none,aR,m,a1.cells,eM,a,n,-hU];refine d'.not (by simp[g.none]) ?_;simp[aR,-hU];refine d'.not (by simp[g.none]) ?_;simp[g.none,aR,b3,bZ,q,   cU, -hU];refine p _ _ (l.trans e) e (by simp[oL,f,a]) λj _=>?_;simp[show ∀i,32<=i->j≠i from λi _=>by omega]
def fU(aa:ar)(xs:List (List UInt8)):Bool:=dJ aa xs aa.a.length&&y3 aa (bU xs)
theorem ar.kc{aa:ar}{i:Nat}(h:i<aa.a.length):aa.a[i]? = some (aa.ad i):=by rw[ar.ad,e5,en h];rfl
theorem Ng{α:Type}{l:List α}{f:α->Bool}:((!l.all f)=true)↔∃i,i<l.length/\(!((l[i]?.map f).getD true))=true:=by
 rw[ir,lz,Ne,eA];constructor
 ·intro h;simp only[Classical.not_forall]at h;obtain⟨_,b,c⟩:=h;obtain⟨i,a⟩:=u5 b;exact⟨i,(hZ.1 a).1,by simp[a,c]⟩
 ·rintro⟨i,a,b⟩ h;have:=h l[i] (tn a);simp[en a,this]at b
theorem MD(j:fA X)(g:bl pm H){v w:Value}{aa:ar}{xs:List (List UInt8)}(N:kA H v aa)(m:aa.ok)(hw:fp H w xs)(D:jO xs):
 Call X pm F.qa [v,w] H λr ab=>K pm H ab/\r=.bool (fU aa xs):=by
 refine Call.hT j.qa rfl ?_;have ad:=N;obtain⟨_,_,rfl,hc,O⟩:=N;obtain⟨n,o,rfl,af⟩:=hc.at;obtain⟨p,q,rfl,_⟩:=O.at;have hn:=m.c;have N:=m.r;obtain⟨s,E⟩:∃s,s=H.new (.cells [.slice n aa.a.length o,.slice p aa.rows.length q] (.t T.Ie)):=⟨_,rfl⟩;have A:K pm H s:=by rw[E];exact K.new g _
 have a':s.get H.next=some (.cells [.slice n aa.a.length o,.slice p aa.rows.length q] (.t T.Ie)):=by rw[E];exact cc
 obtain⟨B,P⟩:∃B,B=H.next:=⟨_,rfl⟩;rw[<-P]at a';simp[g.pick,g.make,ptr,<-E,<-P,a',-Ii,-cm];refine al.of (aq:=[w,.int .i64 (aa.a.length:Int)]) (zu j A.q (hw.ext (A.ext g)) D.len D.lt) ?_;have Q:∀{b:ae} (u:Value),K pm s b->∃h,h=(b.new (.cells [.slice none 0 0] (.t T.zz))).put b.next (.cells [u] (.t T.zz))/\K pm H h/\h.get B=some (.cells [.slice n aa.a.length o,.slice p aa.rows.length q] (.t T.Ie))/\h.get b.next=some (.cells [u] (.t T.zz))/\K pm b h:=λ{b} u a=>by
  have d:=gh a.q (.cells [.slice none 0 0] (.t T.zz)) (.cells [u] (.t T.zz));exact⟨_,rfl,A.trans (a.trans d),(a.trans d).some A.q a',bO,d⟩
 rintro _ b ⟨a,⟨y,rfl⟩ | ⟨y,u,rfl,R⟩⟩
 ·obtain⟨h,z,c,G,I,S⟩:=Q (.slice none 0 0) a;simp[aR,a.q.pick,a.q.make,ptr,a.q.may (bc _),<-z];refine al.not ?_;simp[aR];exact⟨c,by simp[fU,dJ,y]⟩
 obtain⟨bu,cu,rfl,_⟩:=id R.ex;obtain⟨h,z,c,G,I,S⟩:=Q (.slice bu xs.length cu) a;simp[aR,a.q.pick,a.q.make,ptr,a.q.may (bc _),<-z,-CZ];by_cases l:xs.length=aa.a.length
 ·have h:((xs.length:Int)=(aa.a.length:Int)):=by omega
  simp[h,G,bB,bA,-CZ];refine al.of (a':=by simp[l]) (aq:=[.agg #[.slice n aa.a.length o,.slice p aa.rows.length q]]) (qV j c.q (ad.ext (c.ext g)) m) ?_;rintro _ H4 ⟨d,rfl⟩;have J:=c.trans d;cases v:aa.I
  ·simp[l];exact⟨J,by simp[fU,dJ,v]⟩
  ·have L:=(R.ext (S.ext a.q)).ext (d.ext c.q);rw[l]at L I;have U:=d.some c.q G;have V:=d.some c.q I;have W:∀i,i<aa.a.length->aV (bU xs i) 10000:=λi _=>z8 D.all i;have ae:dJ aa xs aa.a.length=true:=by simp[dJ,y,l,v]
   simp[l,U,-w1,-Ih]
   refine er (σ:=Unit) aa.a.length (λk _=>[(2,.pointer (some ⟨B,0,none⟩)),(5,.pointer (some ⟨b.next,0,none⟩)),(25,.slice n aa.a.length o)])
    (λk _ ab=>K pm H ab/\K pm H4 ab/\sP aa (bU xs) k=true) () (by simp) ⟨J,K.refl J.q,rfl⟩ ?_ ?_
   ·rintro k _ r f ⟨F,H,ab⟩;obtain⟨_,_,_,_,cs,rfl,e2,z,e4,e,X,rfl⟩:=af k f;have Y:=cX X;have ag:=F.some g e2;have t:=F.q;obtain⟨w,M⟩:∃w,w=(r.new (.cells [.string ⟨#[]⟩,.string ⟨#[]⟩,.string ⟨#[]⟩,.string ⟨#[]⟩,.bool false] (.t T.Ig))).put r.next (.cells [ak e.name,ak e.low,ak e.up,ak e.cost,.bool e.int] (.t T.Ig)):=⟨_,rfl⟩;have C:K pm r w:=by rw[M];exact gh t _ _
    have a:w.get r.next=some (.cells e.cells (.t T.Ig)):=by rw[M];exact bO
    simp[f,ag,z,e4,t.pick,t.make,t.may (bc _),ptr,bA,a1.cells,<-M,-CY,-w1];refine Ul j (F.trans C) (uJ v Y) (m.cs e Y) (k:=k) (x:=bU xs) a ((H.trans C).some d.q V) (L.ext ((H.trans C).ext d.q)) f ((W k f).bo (by decide)) (by simp) (by simp) (by simp) ?_;intro _ _ g ah a ai;have K:=ar.q7 X;simp[a,-w1];cases Z:oL e (bU xs k)
    ·simp;refine⟨g,?_⟩;have:sP aa (bU xs) aa.a.length=false:=by
      rw[lz];intro y;have:=Gb.1 y k f;rw[K,Z]at this;cases this
     simp[fU,y3,this]
    ·simp[ai,-w1];exact⟨g,(H.trans C).trans ah,by simp[sP,ab,K,Z]⟩
   ·rintro _ _ ⟨k,w,x⟩;simp[w.some d.q U];refine al.of (aq:=[.slice p aa.rows.length q,.func (.func F.oV) #[] #[.pointer (some ⟨b.next,0,none⟩)]]) (EH j k.q (O.ext (k.ext g)) (by omega) (f:=F.oV) (cs:=#[.pointer (some ⟨b.next,0,none⟩)]) (λi=>!((aa.rows[i]?.map (vc (bU xs))).getD true)) ?_ (t:=!aa.rows.all (vc (bU xs))) Ng) ?_
    ·rintro i g cs _ ⟨r,_,f,rfl,b⟩ e;have a:=cX f;simp only[f,hK,je];exact Uk j e.q (m.rs r a) hn (uK v a) (b.ext (e.ext k.q)) (L.ext ((w.trans e).ext d.q)) ((w.trans e).some d.q V) (t:=10000) (by decide) W
    rintro _ g ⟨e,rfl⟩;simp;exact⟨k.trans e,by simp[fU,y3,ae,x]⟩
 ·have:¬((xs.length:Int)=(aa.a.length:Int)):=by omega
  simp[this,];refine al.not (a':=by simp) ?_;simp[aR];exact⟨c,by simp[fU,dJ,l]⟩
theorem qy(q:Rat):(cg q<0)=(q<0):=by
 unfold cg;apply propext;by_cases h:q<0
 ·simp[h]
 ·by_cases a:q=0<;>simp[h,a]
theorem tC(q:Rat):(0<cg q)=(0<q):=by
 unfold cg;apply propext;by_cases h:q<0
 ·simp only[h,if_true];exact⟨λh=>by omega,λe=>absurd e (fy.2 (iJ h))⟩
 ·by_cases a:q=0
  ·subst a;simp
  ·simp only[h,a,if_false];exact⟨λ_=>Rat.lt_of_le_of_ne (fy.1 h) (Ne.symm a),λ_=>by omega⟩
theorem jh(q:Rat):(cg q=0)=(q=0):=by
 unfold cg;apply propext;by_cases h:q<0
 ·simp only[h,if_true];exact⟨λh=>by omega,λe=>by subst e;exact absurd h th⟩
 ·by_cases a:q=0<;>simp[h,a]
def r6(aa:ar)(x:Nat->Rat):Nat->Bool
 | 0=>true
 | k+1=>r6 aa x k&&(!(aa.ad k).int||decide ((x k).den=1))
theorem AA{aa:ar}{x:Nat->Rat}:∀{k:Nat},r6 aa x k=true↔∀i,i<k->(!(aa.ad i).int||decide ((x i).den=1))=true
 | 0=>by simp[r6]
 | k+1=>by
   rw[r6,bK,AA];constructor
   ·rintro⟨a,b⟩ i _;by_cases e:i=k
    ·exact e▸b
    ·exact a i (by omega)
   ·intro h;exact⟨λi _=>h i (by omega),h k (by omega)⟩
def jm(aa:ar)(xs:List (List UInt8)):Bool:=dJ aa xs aa.a.length&&r6 aa (bU xs) aa.a.length
def mY(c:a1)(q:Rat):Bool:=!((!c.low.isEmpty&&decide (q<0))||(!c.up.isEmpty&&decide (0<q)))
def rV(aa:ar)(x:Nat->Rat):Nat->Bool
 | 0=>true
 | k+1=>rV aa x k&&mY (aa.ad k) (x k)
theorem I'{aa:ar}{x:Nat->Rat}:∀{k:Nat},rV aa x k=true↔∀i,i<k->mY (aa.ad i) (x i)=true
 | 0=>by simp[rV]
 | k+1=>by
   rw[rV,bK,I'];constructor
   ·rintro⟨a,b⟩ i _;by_cases e:i=k
    ·exact e▸b
    ·exact a i (by omega)
   ·intro h;exact⟨λi _=>h i (by omega),h k (by omega)⟩
def tx(x:Nat->Rat)(r:b9):Bool:=pY r.kind (cg (gM r.G x))
def xt(aa:ar)(x:Nat->Rat):Bool:=rV aa x aa.a.length&&(aa.rows.all (tx x)&&decide (aa.P x<0))
def iL(aa:ar)(xs:List (List UInt8)):Bool:=dJ aa xs aa.a.length&&xt aa (bU xs)
theorem UH(j:fA X)(g:bl pm H){r:b9}{cj u:Value}{x:Nat->Rat}{t b:Nat}{z:cM}(y:r.ok)(E:n<=20)(G:iM r n=true)(p:kz H cj r.G)(s:jM H u n x)(I:H.get b=some (.cells [u] z))(v:t<=20000)(w:∀i,i<n->aV (x i) t):
 Call X pm F.oW [.agg (r.cells cj).toArray,.pointer (some ⟨b,0,none⟩)] H λq ab=>K pm H ab/\q=.bool (!tx x r):=by
 refine Call.hT j.oW rfl ?_;obtain⟨k,J,L,M⟩:=xx G y E;have t:=Oz k v w;obtain⟨c,l⟩:∃c,c=H.new (.cells (r.cells cj) (.t T.RA)):=⟨_,rfl⟩;have e:K pm H c:=by rw[l];exact K.new g _
 have i:c.get H.next=some (.cells (r.cells cj) (.t T.RA)):=by rw[l];exact cc
 obtain⟨y,z⟩:∃y,y=H.next:=⟨_,rfl⟩;rw[<-z]at i;have a:=e.q;have A:=e.some g I;simp[g.pick,g.make,ptr,<-l,<-z,-cm];refine cx.of a.ah rfl ?_;have f:K pm c (c.up 10):=(K.refl a).up 10;have N:=a.lt i;have O:=a.lt A;obtain⟨_,P,B,_,_⟩:=r;simp only at J L M t k;simp[b8,a.none,a.O,i,A,b9.cells];refine cY f.q (aq:=[cj,u]) (by simp[a.none]) rfl (λC d=>Tg j d (p.ext ((e.trans f).ext g)) (s.ext ((e.trans f).ext g)) k v w) ?_;rintro c _ h D;have o:=h.res a;simp;refine cY h.q (aq:=[c]) (by simp[o]) rfl (λC d=>g' d (hA j.toEL d D.of (t.bo (by decide)))) ?_;rintro _ _ _ ⟨rfl,rfl⟩;simp;refine fG h.q (aq:=[.int .i64 P,.int .i64 (cg (gM B x))]) (by simp[o]) rfl (λC d=>g' d (Pk j)) ?_;rintro _ _ _ ⟨rfl,rfl⟩;have c:=(f.trans h).some a i;have Q:=λm=>jT D c m;obtain⟨R,S,rfl,_⟩:=p.at;obtain⟨U,V,rfl,_⟩:=s.ex;have W:∀m,dj m [.slice R B.length S,.slice U n V]=[]:=λm=>rfl;simp[o,b3,bZ,N,O,fT,cU,Q,W,tx];exact e.trans (f.trans h)
theorem UI(d:fA X)(g:bl pm H){v w:Value}{aa:ar}{xs:List (List UInt8)}(hv:kA H v aa)(u:aa.ok)(hw:fp H w xs)(J:jO xs):
 Call X pm F.rI [v,w] H λr ab=>K pm H ab/\r=.bool (iL aa xs):=by
 refine Call.hT d.rI rfl ?_;have ad:=hv;obtain⟨_,_,rfl,hc,hr⟩:=hv;obtain⟨n,o,rfl,ai⟩:=hc.at;obtain⟨p,q,rfl,_⟩:=hr.at;have hn:=u.c;have aw:=u.r;obtain⟨x,L⟩:∃x,x=H.new (.cells [.slice n aa.a.length o,.slice p aa.rows.length q] (.t T.Il)):=⟨_,rfl⟩;have A:K pm H x:=by rw[L];exact K.new g _
 have a':x.get H.next=some (.cells [.slice n aa.a.length o,.slice p aa.rows.length q] (.t T.Il)):=by rw[L];exact cc
 obtain⟨B,hb⟩:∃B,B=H.next:=⟨_,rfl⟩;rw[<-hb]at a';simp[g.pick,g.make,ptr,<-L,<-hb,a',-Ip,-cm];refine al.of (aq:=[w,.int .i64 (aa.a.length:Int)]) (zu d A.q (hw.ext (A.ext g)) J.len J.lt) ?_;have af:∀{e:ae} (y:Value),K pm x e->∃i,i=(e.new (.cells [.slice none 0 0] (.t T.zB))).put e.next (.cells [y] (.t T.zB))/\K pm H i/\i.get B=some (.cells [.slice n aa.a.length o,.slice p aa.rows.length q] (.t T.Il))/\i.get e.next=some (.cells [y] (.t T.zB))/\K pm e i:=λ{e} y a=>by
  have b:=gh a.q (.cells [.slice none 0 0] (.t T.zB)) (.cells [y] (.t T.zB));exact⟨_,rfl,A.trans (a.trans b),(a.trans b).some A.q a',bO,b⟩
 rintro _ e ⟨a,⟨z,rfl⟩ | ⟨z,y,rfl,hu⟩⟩
 ·obtain⟨i,M,h,N,O,ag⟩:=af (.slice none 0 0) a;simp[aR,a.q.pick,a.q.make,ptr,a.q.may (bc _),<-M];refine al.not ?_;simp[aR];exact⟨h,by simp[iL,dJ,z]⟩
 obtain⟨bu,cu,rfl,_⟩:=id hu.ex;obtain⟨i,M,h,N,O,ag⟩:=af (.slice bu xs.length cu) a;simp[aR,a.q.pick,a.q.make,ptr,a.q.may (bc _),<-M,-C0];by_cases s:xs.length=aa.a.length
 ·have v:((xs.length:Int)=(aa.a.length:Int)):=by omega
  simp[v,N,bB,bA,-C0];refine al.of (a':=by simp[s]) (aq:=[.agg #[.slice n aa.a.length o,.slice p aa.rows.length q]]) (qV d h.q (ad.ext (h.ext g)) u) ?_;rintro _ H4 ⟨b,rfl⟩;have P:=h.trans b;cases C:aa.I
  ·simp[s];exact⟨P,by simp[iL,dJ,C]⟩
  ·have D:=(hu.ext (ag.ext a.q)).ext (b.ext h.q);rw[s]at D O;obtain⟨_,_,aj,an⟩:=id D.ex;cases aj;have g4:=b.some h.q N;have Q:=b.some h.q O;have R:∀j,j<aa.a.length->aV (bU xs j) 10000:=λj _=>z8 J.all j;have ao:dJ aa xs aa.a.length=true:=by simp[dJ,z,s,C]
   simp[s,g4,-mO,-Io]
   refine er (σ:=Unit) aa.a.length (λk _=>[(2,.pointer (some ⟨B,0,none⟩)),(5,.pointer (some ⟨e.next,0,none⟩)),(26,.slice n aa.a.length o)])
    (λk _ ab=>K pm H ab/\K pm H4 ab/\rV aa (bU xs) k=true) () (by simp) ⟨P,K.refl P.q,rfl⟩ ?_ ?_
   ·rintro k _ E f ⟨S,au,av⟩;obtain⟨_,_,_,_,cs,rfl,e2,e3,e4,c,e5,rfl⟩:=ai k f;obtain⟨_,_,_,_,U,rfl,f2,V,W,f5⟩:=an k f;have ab:=S.some g e2;have l:=S.q;obtain⟨m,F⟩:∃m,m=(E.new (.cells [.string ⟨#[]⟩,.string ⟨#[]⟩,.string ⟨#[]⟩,.string ⟨#[]⟩,.bool false] (.t T.Im))).put E.next (.cells [ak c.name,ak c.low,ak c.up,ak c.cost,.bool c.int] (.t T.Im)):=⟨_,rfl⟩;have t:K pm E m:=by rw[F];exact gh l _ _
    have g:m.get E.next=some (.cells [ak c.name,ak c.low,ak c.up,ak c.cost,.bool c.int] (.t T.Im)):=by rw[F];exact bO
    have ae:=ar.q7 e5;have G:=au.trans t;have X:=G.some b.q f2;have Y:=G.some b.q Q;have v:=f5.up G;have Z:=(R k f).bo (by decide:10000<=gZ);have ah:=S.trans t;have no:mY c (bU xs k)=false->K pm H m/\iL aa xs=false:=λhi=>by
     have:rV aa (bU xs) aa.a.length=false:=by
      rw[lz];intro z;have:=I'.1 z k f;rw[ae,hi]at this;cases this
     exact⟨ah,by simp[iL,xt,this]⟩
    have I:mY c (bU xs k)=true->K pm H m/\K pm H4 m/\rV aa (bU xs) (k+1)=true:=λhi=>⟨ah,G,by simp[rV,av,ae,hi]⟩;cases w:c.low.isEmpty
    ·simp[f,ab,e3,e4,l.pick,l.make,l.may (bc _),ptr,bA,a1.cells,<-F,g,eM,w,Y,X,V,W,-mO];refine al.of (aq:=[U]) (hA d.toEL t.q v.of Z) ?_;rintro _ _ ⟨rfl,rfl⟩;by_cases r:bU xs k<0
     ·simp[qy,r,aR];refine al.not ?_;simp[aR];exact no (by simp[mY,w,r])
     ·cases H:c.up.isEmpty
      ·simp[qy,r,g,eM,H,Y,f,X,V,W,-mO];refine al.of (aq:=[U]) (hA d.toEL t.q v.of Z) ?_;rintro _ _ ⟨rfl,rfl⟩;by_cases a:0<bU xs k
       ·simp[tC,a,];exact no (by simp[mY,H,a])
       ·simp[tC,a,-mO];exact I (by simp[mY,r,a])
      ·simp[qy,r,g,eM,H,aR,-mO];refine al.not ?_;simp[aR,-mO];exact I (by simp[mY,r,H])
    ·simp[f,ab,e3,e4,l.pick,l.make,l.may (bc _),ptr,bA,a1.cells,<-F,g,eM,w,aR,-mO];refine al.not ?_;cases r:c.up.isEmpty
     ·simp[aR,g,eM,r,Y,f,X,V,W,-mO];refine al.of (aq:=[U]) (hA d.toEL t.q v.of Z) ?_;rintro _ _ ⟨rfl,rfl⟩;by_cases a:0<bU xs k
      ·simp[tC,a,];exact no (by simp[mY,r,a])
      ·simp[tC,a,-mO];exact I (by simp[mY,w,a])
     ·simp[g,eM,r,aR,-mO];refine al.not ?_;simp[aR,-mO];exact I (by simp[mY,w,r])
   ·rintro _ _ ⟨l,m,G⟩;have w:=m.some b.q g4;have H:=m.some b.q Q;simp[w,-Iq];refine al.of (aq:=[.slice p aa.rows.length q,.func (.func F.oW) #[] #[.pointer (some ⟨e.next,0,none⟩)]]) (EH d l.q (hr.ext (l.ext g)) (by omega) (f:=F.oW) (cs:=#[.pointer (some ⟨e.next,0,none⟩)]) (λj=>!((aa.rows[j]?.map (tx (bU xs))).getD true)) ?_ (t:=!aa.rows.all (tx (bU xs))) Ng) ?_
    ·rintro j F cs _ ⟨r,_,g,rfl,e⟩ c;have a:=cX g;simp only[g,hK,je];exact UH d c.q (u.rs r a) hn (uK C a) (e.ext (c.ext l.q)) (D.ext ((m.trans c).ext b.q)) ((m.trans c).some b.q Q) (t:=10000) (by decide) R
    rintro _ F ⟨c,rfl⟩;have f:=l.trans c;cases E:aa.rows.all (tx (bU xs))
    ·simp[aR];refine al.not ?_;simp[aR];refine al.not ?_;simp[aR];exact⟨f,by simp[iL,xt,E]⟩
    ·simp[c.some l.q w,c.some l.q H,bB,bA];refine al.of (aq:=[.agg #[.slice n aa.a.length o,.slice p aa.rows.length q],.slice bu aa.a.length cu]) (Oc d c.q (ad.ext (f.ext g)) u C (D.ext ((m.trans c).ext b.q)) (t:=10000) (by decide) R) ?_;rintro p _ ⟨r,a,b⟩;simp;refine al.of (aq:=[p]) (hA d.toEL r.q a.of (b.bo (by decide))) ?_;rintro _ _ ⟨rfl,rfl⟩;simp[qy];exact⟨f.trans r,by simp[iL,xt,ao,G,E]⟩
 ·have:¬((xs.length:Int)=(aa.a.length:Int)):=by omega
  simp[this,];refine al.not (a':=by simp) ?_;simp[aR];exact⟨h,by simp[iL,dJ,s]⟩
theorem Call.W{f:FuncId}{args:List Value}{R:Value->ae->Prop}{F:bg}(a:Has X f F)(b:Nat.ble args.length F.kh=true)
 (h:∀Q:cl,(∀x l ab,pJ F.res R x l ab->Q x l ab)->wp X pm (.code F.body) (ub args 0 []) H [] Q):Call X pm f args H R:=Call.hT a b (h _ λ_ _ _=>id)
theorem za:gq []=none:=by rfl
theorem aaD(a:fA X)(g:bl pm H){l:List UInt8}(aY:l.length<1000000):Call X pm F.iI [ak l] H λr ab=>K pm H ab/\nJ ab r=some (rd l):=by
 refine Call.has a.iI rfl ?_;simp;refine al.of (qS a.toEL g aY) ?_;rintro r _ ⟨b,h⟩
 rcases h with⟨e,rfl⟩ | ⟨q,p,e,rfl,fw⟩
 ·simp[rd,e,nJ];exact b
 ·simp[rd,e];exact⟨b,fw.of⟩
def rv(c:a1)(d:Rat):Option Rat:=if d≠0/\(if d<0 then c.up else c.low).isEmpty=true then none else some (d*rd (if d<0 then c.up else c.low))
theorem Yt(f:fA X)(g:bl pm H){c:a1}{w:Value}{d:Rat}{t:Nat}(C:c.ok)(D:b4 H w d)(E:t<=30000000)(o:aV d t):
 Call X pm F.rK [.agg c.cells.toArray,w] H λr ab=>K pm H ab/\(rv c d=none/\r=.tuple #[.pointer none,.bool false]∨∃q p,rv c d=some q/\r=.tuple #[p,.bool true]/\b4 ab p q/\aV q (t+10000)):=by
 refine Call.W f.rK rfl λQ s=>?_;have k:=o.bo (a8 E (by decide));obtain⟨u,h,i,v,x⟩:=c;obtain⟨y,z,E⟩:=C;simp only at y z E;obtain⟨a,l⟩:∃a,a=H.new (.cells [ak u,ak h,ak i,ak v,.bool x] (.t T.RF)):=⟨_,rfl⟩;have e:K pm H a:=by rw[l];exact K.new g _
 have A:a.get H.next=some (.cells [ak u,ak h,ak i,ak v,.bool x] (.t T.RF)):=by rw[l];exact cc
 have m:=D.up e;simp[g.pick,g.make,ptr,a1.cells,<-l,A,-w2,-IB];refine al.of (aq:=[w]) (hA f.toEL e.q m.of k) ?_;rintro _ a ⟨rfl,rfl⟩;have B:∀(b:List UInt8) (L:bn),b.length<=10000->b=(if d<0 then i else h)->aF 1 L=some w->aF 6 L=some (ak b)->wp X pm (.code w2) L a [] Q:=by
  intro b L p q n c;simp[n,-uU];refine al.of (aq:=[w]) (hA f.toEL e.q m.of k) ?_;rintro _ a ⟨rfl,rfl⟩;have r:∀{g:bn},aF 1 g=some w->aF 6 g=some (ak b)->¬(d≠0/\b.isEmpty=true)->wp X pm (.code uU) g a [] Q:=by
   intro g a g l;simp[a,g];refine al.of (aq:=[ak b]) (aaD f e.q (by omega)) ?_;rintro g _ ⟨a,t⟩;simp[-cm];refine al.of (aq:=[w,g]) (og f.toEL a.q (m.up a).of t k (jf p)) ?_;rintro _ _ ⟨f,g⟩;simp;refine s _ _ _ ?_;simp;refine⟨e.trans (a.trans f),d*rd b,?_,g,jk o (hf p)⟩;rw[rv,<-q,aw l]
  by_cases j:d=0
  ·have:cg d=0:=by rw[jh];exact j
   simp[this,aR,-uU];exact r (by simp[n]) (by simp[c]) (by simp[j])
  ·have:(cg d==0)=false:=by simpa [jh]using j
   cases d:b.isEmpty
   ·simp[this,c,eM,d,-uU];exact r (by simp[n]) (by simp[c]) (by simp[d])
   ·simp[this,c,eM,d,-uU];refine s _ _ _ ?_;simp;exact⟨e,by simp[rv,<-q,j,d]⟩
 by_cases a:d<0
 ·simp[qy,a,A,-w2];exact B i _ z (by simp[a]) (by simp) (by simp)
 ·simp[qy,a,-w2];exact B h _ y (by simp[a]) (by simp) (by simp)
def dD(H:ae)(c n k:Nat)(x:Nat->Rat):Prop:=∃a,H.get c=some (.cells a (.n 1))/\a.length=n/\∀i,i<k->∃p,a[i]? = some p/\b4 H p (x i)
theorem dD.k{c k:Nat}{x:Nat->Rat}(h:dD H c n k x)(g:bl pm H)(u:K pm H ab):dD ab c n k x:=by
 obtain⟨a,b,c,d⟩:=h;exact⟨a,u.some g b,c,λi a=>(d i a).imp λ_ q=>⟨q.1,q.2.up u⟩⟩
theorem dD.put{c k m:Nat}{x:Nat->Rat}{a:List Value}(g:bl pm H)(b:m<=c)(a':H.get c=some (.cells a (.n 1)))(aY:a.length=n)(h:∀i,i<k->∃p,a[i]? = some p/\b4 H p (x i)){i:Nat}(l:i<n){p:Value}{q:Rat}(d:b4 H p q){dy:Nat}(av:∀j,j<dy->j=i∨j<k):
 aC pm m H (H.put c (.cells (a.set i p) (.n 1)))/\dD (H.put c (.cells (a.set i p) (.n 1))) c n dy (λj=>if j=i then q else x j):=by
 have u:=aC.put (n:=m) (.refl g) b a' (by simp) (.cells (a.set i p) (.n 1));refine⟨u,_,bO,by simp[aY],λj f=>?_⟩;by_cases e:j=i
 ·subst e;exact⟨p,by grind,by simpa using d.up u⟩
 ·obtain⟨r,_,a⟩:=h j ((av j f).resolve_left e);exact⟨r,by grind,by simpa [e]using a.up u⟩
theorem dD.row{c cap:Nat}{x:Nat->Rat}(h:dD H c n n x):jM H (.slice (some ⟨c,0,none⟩) n cap) n x:=by
 obtain⟨a,b,_,d⟩:=h;exact⟨_,_,rfl,λi e=>by
  obtain⟨p,f,g⟩:=d i e;exact⟨c,0,_,a,p,rfl,b,rfl,by simpa using f,g⟩⟩
theorem dD.congr{c k:Nat}{x y:Nat->Rat}(h:dD H c n k x)(e:∀i,i<k->y i=x i):dD H c n k y:=by
 obtain⟨a,b,c,_⟩:=h;exact⟨a,b,c,λi _=>by grind⟩
def ar.row(aa:ar)(i:Nat):b9:=aa.rows.getD i ⟨[],1,[],[],[]⟩
theorem ar.Sr{aa:ar}{i:Nat}{r:b9}(h:aa.rows[i]? = some r):aa.row i=r:=by simp[ar.row,List.getD,h]
def n6(y:Rat)(d:Nat->Rat)(c:dL):Nat->Rat:=λj=>if j=c.ad.toNat then d j-rd c.v*y else d j
def ko(l:List dL)(y:Rat)(d:Nat->Rat):Nat->Rat:=l.foldl (n6 y) d
def d0(aa:ar)(bQ:Bool)(j:Nat):Rat:=if bQ then rd (aa.ad j).cost else 0
def q8(aa:ar)(bQ:Bool)(y:Nat->Rat):Nat->Nat->Rat
 | 0=>d0 aa bQ
 | k+1=>ko (aa.row k).G (y k) (q8 aa bQ y k)
def uS(aa:ar)(y:Nat->Rat)(k:Nat):Rat:=aS (λi=>y i*rd (aa.row i).rhs) k
def xF(aa:ar)(y:Nat->Rat)(i:Nat):Bool:=!((decide ((aa.row i).kind=1)&&decide (0<y i))||(decide ((aa.row i).kind=3)&&decide (y i<0)))
def jz(aa:ar)(d:Nat->Rat)(s:Rat):Nat->Option Rat
 | 0=>some s
 | k+1=>match jz aa d s k with
   | none=>none
   | some s=>(match rv (aa.ad k) (d k) with
     | none=>none
     | some q=>some (s+q))
def tD(aa:ar)(y:Nat->Rat):Nat->Bool
 | 0=>true
 | k+1=>tD aa y k&&xF aa y k
def ue(aa:ar)(bQ:Bool)(y:Nat->Rat):Option Rat:=if tD aa y aa.rows.length=true then jz aa (q8 aa bQ y aa.rows.length) (uS aa y aa.rows.length) aa.a.length else none
def eX(aa:ar)(xs:List (List UInt8))(bQ:Bool):Option Rat:=if dJ aa xs aa.rows.length=true then ue aa bQ (bU xs) else none
theorem DL{aa:ar}{y:Nat->Rat}:∀{k:Nat},tD aa y k=true↔∀i,i<k->xF aa y i=true
 | 0=>by simp[tD]
 | k+1=>by
   rw[tD,bK,DL];constructor
   ·rintro⟨a,b⟩ i _;by_cases e:i=k
    ·exact e▸b
    ·exact a i (by omega)
   ·intro h;exact⟨λi _=>h i (by omega),h k (by omega)⟩
theorem YJ{aa:ar}{d:Nat->Rat}{s:Rat}{k:Nat}(h:jz aa d s k=none):∀m,k<=m->jz aa d s m=none:=by
 intro m _
 induction m with
 | zero=>obtain rfl:k=0:=by omega
         exact h
 | succ m ih=>
   by_cases e:k=m+1
   ·exact e▸h
   ·rw[jz,ih (by omega)]
theorem Sk{y:Rat}{j:Nat}:∀{l:List dL} {d:Nat->Rat},(∀c∈l,c.ad.toNat≠j)->ko l y d j=d j
 | [],_,_=>rfl
 | c::l,d,h=>by
   show ko l y (n6 y d c) j=d j;rw[Sk λc a=>h c (.tail _ a),n6,aw (Ne.symm (h c (.head _)))]
theorem N5{n:Int}:∀{l:List dL} {last:Int} (k:Nat),hB n last l=true->hB n last (l.take k)=true
 | [],_,k,_=>by simp[hB]
 | c::l,last,0,_=>by simp[hB]
 | c::l,last,k+1,h=>by
   simp only[hB,bK,List.take_succ_cons]at h|-;exact⟨h.1,h.2.1,h.2.2.1,h.2.2.2.1,N5 k h.2.2.2.2⟩
theorem Sl{y:Rat}{j:Nat}{n:Nat}:∀{l:List dL} {last:Int} {d:Nat->Rat},-1<=last->hB n last l=true->ko l y d j=d j∨∃c∈l,ko l y d j=d j-rd c.v*y
 | [],_,_,_,_=>.inl rfl
 | c::l,last,d,_,h=>by
   have e:=yP h;simp only[hB,bK,cP]at h;obtain⟨_,_,_,_,a⟩:=h;show ko l y (n6 y d c) j=d j∨∃e∈c::l,ko l y (n6 y d c) j=d j-rd e.v*y;by_cases e:j=c.ad.toNat
   ·refine .inr ⟨c,.head _,?_⟩;rw[Sk,n6,aL e];intro b d;have:=((yP a).1 b d).2.1;omega
   ·have b:n6 y d c j=d j:=by rw[n6,aw e]
    rcases Sl (last:=c.ad) (d:=n6 y d c) (by omega) a with h | ⟨a,e,h⟩
    ·exact .inl (h.trans b)
    ·exact .inr ⟨a,.tail _ e,by rw[h,b]⟩
theorem Sm{r:b9}{n:Nat}(a:iM r n=true)(c:r.ok){y:Rat}(e:aV y 10000){d:Nat->Rat}{t:Nat}(b:∀j,aV (d j) t)(k j:Nat):aV (ko (r.G.take k) y d j) (t+20001):=by
 simp only[iM,bK]at a
 rcases Sl (y:=y) (j:=j) (d:=d) (by omega) (N5 k a.1) with h | ⟨a,f,h⟩
 ·rw[h];exact dY (b j) (by omega)
 ·rw[h];have d:=c.2.2 a (tt f);exact dY (Tk (b j) (jk (hf (k:=10000) d) e)) (by omega)
theorem ar.rowAt{aa:ar}{i:Nat}(h:i<aa.rows.length):aa.rows[i]? = some (aa.row i):=by rw[ar.row,e5,en h];rfl
theorem VW{aa:ar}(a:aa.ok)(bQ:Bool)(j:Nat):aV (d0 aa bQ j) 10000:=by
 unfold d0
 cases bQ with
 | false=>exact qB
 | true=>
   simp only[if_true];refine hf ?_;by_cases h:j<aa.a.length
   ·exact(a.cs _ (cX (ar.kc h))).2.2
   ·rw[ar.ad,e5,hc (by omega)];simp
theorem Gj{aa:ar}(a:aa.ok)(b:aa.I=true){bQ:Bool}{y:Nat->Rat}(c:∀i,aV (y i) 10000):∀k,k<=aa.rows.length->∀j,aV (q8 aa bQ y k j) (10000+k*20001)
 | 0,_,j=>by simpa [q8]using VW a bQ j
 | k+1,_,j=>by
   have d:=cX (ar.rowAt (aa:=aa) (i:=k) (by omega));have:=Sm (uK b d) (a.rs _ d) (c k) (Gj (bQ:=bQ) a b c k (by omega)) (aa.row k).G.length j;rw[xj]at this;exact dY this (by omega)
theorem Rv{aa:ar}(a:aa.ok){y:Nat->Rat}(b:∀i,aV (y i) 10000){k:Nat}(av:k<=aa.rows.length):aV (uS aa y k) 800100:=by
 have:=a.r;refine dY (xL (t:=20000) λi _=>?_) (by omega);have c:=cX (ar.rowAt (aa:=aa) (i:=i) (by omega));exact dY (jk (b i) (hf (k:=10000) (a.rs _ c).1)) (by omega)
theorem HH{aa:ar}(b:aa.ok){d:Nat->Rat}{s:Rat}{t:Nat}(c:aV s 800100)(f:∀j,aV (d j) t):∀{k:Nat} {q:Rat},k<=aa.a.length->jz aa d s k=some q->aV q (800100+k*(t+10001))
 | 0,q,_,h=>by simp only[jz,aJ]at h;subst h;simpa using c
 | k+1,q,_,h=>by
   rw[jz]at h
   cases e:jz aa d s k with
   | none=>rw[e]at h;cases h
   | some _=>
     rw[e]at h;simp only at h
     cases a:rv (aa.ad k) (d k) with
     | none=>rw[a]at h;cases h
     | some p=>
       rw[a]at h;simp only[aJ]at h;subst h;have g:=b.cs _ (cX (ar.kc (aa:=aa) (i:=k) (by omega)));have:aV p (t+10000):=by
        unfold rv at a;by_cases i:d k≠0/\(if d k<0 then(aa.ad k).up else(aa.ad k).low).isEmpty=true
        ·rw[aL i]at a;cases a
        ·rw[aw i]at a;simp only[aJ]at a;subst a;refine jk (f k) (hf ?_);split
         ·exact g.2.1
         ·exact g.1
       refine dY (vi (HH b c f (by omega) e) this) ?_;rw[j0];omega
theorem TV(o:fA X)(M:bl pm ai)(y:K pm ai H){aa:ar}(m:aa.ok){b c:Nat}{z:cM}{p:Option Addr}{cap:Nat}{N u:Value}{d:Nat->Rat}{s:Rat}{t:Nat}(O:hO ai (.slice p aa.a.length cap) aa.a)(P:H.get b=some (.cells [.slice p aa.a.length cap,N] z))
 (R:dD H c aa.a.length aa.a.length d) (S:b4 H u s) (U:t<=1000000) (q:∀j,aV (d j) t) (z:aV s 800100) {L:bn} (V:aF 3 L=some (.pointer (some ⟨b,0,none⟩))) (W:aF 10 L=some (.slice (some ⟨c,0,none⟩) aa.a.length aa.a.length)) (Y:aF 13 L=some u) {Q:cl}
 (A:∀x l ab,pJ [.slot 6,.slot 7] (λr ab=>K pm ai ab/\r=lG (jz aa d s aa.a.length)) x l ab->Q x l ab):wp X pm (.code zy) L H [] Q:=by
 have N:=m.c;obtain⟨_,_,Z,ad⟩:=O.at;cases Z;have B:=y.q;simp[V,P,-H',-H6]
 refine er (σ:=Value×Rat) aa.a.length (λk v=>[(10,.slice (some ⟨c,0,none⟩) aa.a.length aa.a.length),(13,v.1),(132,.slice p aa.a.length cap)])
  (λk v ab=>K pm ai ab/\K pm H ab/\b4 ab v.1 v.2/\jz aa d s k=some v.2) (u,s) (by simp[W,Y]) ⟨y,K.refl B,S,rfl⟩ ?_ ?_
 ·rintro k ⟨v,L⟩ j l ⟨u,x,C,n⟩;simp only at C n;obtain⟨_,_,_,_,_,rfl,Q,X,e4,a,D,rfl⟩:=ad k l;have ab:=cX D;have ae:=ar.q7 D;have af:=u.some M Q;have f:=u.q;obtain⟨_,d1,_,p⟩:=R.k B x;obtain⟨ag,p1,p2⟩:=p k l;obtain⟨c,w⟩:∃c,c=(j.new (.cells [.string ⟨#[]⟩,.string ⟨#[]⟩,.string ⟨#[]⟩,.string ⟨#[]⟩,.bool false] (.t T.H5))).put j.next (.cells [ak a.name,ak a.low,ak a.up,ak a.cost,.bool a.int] (.t T.H5)):=⟨_,rfl⟩;have e:K pm j c:=by rw[w];exact gh f _ _
  have E:c.get j.next=some (.cells [ak a.name,ak a.low,ak a.up,ak a.cost,.bool a.int] (.t T.H5)):=by rw[w];exact bO
  have b:=e.q;have F:=e.some f d1;have G:=b.lt E;have H:=b.lt F;have g:K pm c (c.up 11):=(K.refl b).up 11;simp[l,af,X,e4,f.pick,f.make,f.may (bc _),ptr,bA,a1.cells,<-w,-CX];refine cx.of b.ah rfl ?_;simp[b8,b.none,b.O,E,F,p1,l,bB,bA,-CX];refine fG (aI:=by simp[a1.cells]) g.q (aq:=[.agg a.cells.toArray,ag]) (by simp[b.none]) rfl (λ_ c=>Yt o c (m.cs a ab) ((p2.up e).up g) (by omega) (q k)) ?_;rintro r _ i hr;have I:=i.res b;have J:=u.trans (e.trans (g.trans i));have ah:=x.trans (e.trans (g.trans i))
  rcases hr with⟨h,rfl⟩ | ⟨adJ,Z8,h,rfl,zc,W2⟩
  ·simp[I,b3,bZ,G,H];refine A _ _ _ ?_;have:jz aa d s (k+1)=none:=by rw[jz,n];simp only[ae,h]
   simp[YJ this _ (by omega:k+1<=aa.a.length),lG];exact J
  ·simp[I,b3,bZ,G,H];have a:=HH m z q (by omega) n;have b:aV L 22000000:=dY a (by
    have a:k*(t+10001)<=20*1010001:=gk (by omega) (by omega);omega)
   refine al.of (aq:=[v,Z8]) (n8 o.toEL i.q (((C.up e).up g).up i).of zc.of (b.bo (by decide)) (W2.bo (a8 (Nat.add_le_add_right U _) (by decide)))) ?_;rintro _ _ ⟨a,b⟩;simp;exact⟨J.trans a,ah.trans a,_,b,by rw[jz,n];grind⟩
 ·rintro⟨v,d⟩ e ⟨b,_,c,a⟩;simp only at c a;simp;have f:aV d 22000000:=dY (HH m z q (by omega) a) (by
   have d:aa.a.length*(t+10001)<=20*1010001:=gk (by omega) (by omega);omega)
  refine al.of (aq:=[v]) (mn o.toEL b.q c.of (f.bo (by decide))) ?_;rintro _ e ⟨rfl,rfl⟩;simp;refine A _ _ _ ?_;simp[a,lG];exact b
def fg(c:Nat)(H ab:ae):Prop:=∀b x,b≠c->H.get b=some x->ab.get b=some x
theorem fg.refl{c:Nat}:fg c H H:=λ_ _ _ h=>h
theorem fg.trans{c:Nat}(h:fg c H ab)(g:fg c ab bX):fg c H bX:=λb x a e=>g b x a (h b x a e)
theorem K.uq{c:Nat}(k:K pm H ab)(g:bl pm H):fg c H ab:=λ_ _ _ e=>k.some g e
theorem fg.put{c:Nat}{y:bz}:fg c H (H.put c y):=λ_ _ a e=>by rw[a6 a];exact e
theorem fg.dr{c:Nat}(h:fg c H ab){v:Value}{q:Rat}{cs:List Value}{z:cM}(d:H.get c=some (.cells cs z))(a:b4 H v q):b4 ab v q:=by
 obtain⟨b,rfl,c⟩:=a;exact⟨b,rfl,h b _ (by grind) c⟩
theorem TX(f:fA X)(g:bl pm H){r:b9}{cj w:Value}{c4 m k:Nat}{z:cM}{y:Nat->Rat}(a:H.get c4=some (.cells (r.cells cj) z))(i:jM H w m y)(av:k<m)(l:bo (y k)=true)
 {L:bn} (m:aF 8 L=some w) (n:aF 14 L=some (.int .i64 (k:Int))) (b:aF 15 L=some (.pointer (some ⟨c4,0,none⟩))) {Q:cl}
 (o:(decide (r.kind=1)&&decide (0<y k)||decide (r.kind=3)&&decide (y k<0))=true->∀aU,aF 6 aU=some (ak [])->aF 7 aU=some (.bool false)->Q .ret aU H)
 (h:(decide (r.kind=1)&&decide (0<y k)||decide (r.kind=3)&&decide (y k<0))=false->∀aU:bn,(∀j,j<66->aF j aU=aF j L)->wp X pm (.code mN) aU H [] Q):
 wp X pm (.code CV) L H [] Q:=by
 obtain⟨_,_,rfl,v⟩:=i.ex;obtain⟨_,_,_,_,q,rfl,p,s,t,u⟩:=v k av;have e:∀j,j<66->∀i,66<=i->j≠i:=λj e i _=>by omega
 by_cases c:r.kind=1
 ·simp[b,a,b9.cells,c,m,n,av,p,s,t,-mN];refine al.of (aq:=[q]) (hA f.toEL g u.of l) ?_;rintro _ H ⟨rfl,rfl⟩;by_cases d:0<y k
  ·simp[tC,d,aR,-mN];refine al.not ?_;simp[aR];exact o (by simp[c,d]) _ (by simp) (by simp)
  ·simp[tC,d,b,a,b9.cells,c,aR,-mN];refine al.not ?_;simp[aR,-mN];refine h (by simp[c,d]) _ λj d=>?_;simp[e j d]
 ·have w:(r.kind==1)=false:=by simpa using c
  by_cases d:r.kind=3
  ·simp[b,a,b9.cells,d,aR,-mN];refine al.not ?_;simp[b,a,b9.cells,d,m,n,av,p,s,t,-mN];refine al.of (aq:=[q]) (hA f.toEL g u.of l) ?_;rintro _ H ⟨rfl,rfl⟩;by_cases f:y k<0
   ·simp[qy,f];exact o (by simp[d,f]) _ (by simp) (by simp)
   ·simp[qy,f,-mN];refine h (by simp[d,f]) _ λj f=>?_;simp[e j f]
  ·have f:(r.kind==3)=false:=by simpa using d
   simp[b,a,b9.cells,w,aR,-mN];refine al.not ?_;simp[b,a,b9.cells,f,aR,-mN];refine al.not ?_;simp[aR,-mN];refine h (by simp[c,d]) _ λj a=>?_;simp[e j a]
theorem TW(A:fA X)(G:bl pm ai)(Z:K pm ai H){r:b9}{cj w u dB D9:Value}{c4 m M k c:Nat}{z:cM}{y d:Nat->Rat}{t:Nat}(I:r.ok)(J:iM r n=true)(hn:n<=20)(aa:kz ai cj r.G)(hr:H.get c4=some (.cells (r.cells cj) z))(_:c4≠c)(N:ai.next<=c)
 (hd:dD H c n n d) (O:∀ab,fg c H ab->jM ab w m y) (av:k<m) (z:aV (y k) 10000) (ht:t<=1000000) (ad:∀j,aV (d j) t) {L:bn} (l3:aF 3 L=some dB) (l8:aF 8 L=some w) (ae:aF 10 L=some (.slice (some ⟨c,0,none⟩) n n)) (af:aF 13 L=some u) (ag:aF 14 L=some (.int .i64 (k:Int))) (P:aF 15 L=some (.pointer (some ⟨c4,0,none⟩)))
 (ah:aF 63 L=some D9) (aj:aF 64 L=some (.int .i64 (M:Int))) (al:aF 65 L=some (.int .i64 (k:Int))) {Q:cl}
 (an:∀aU ab,K pm ai ab->fg c H ab->dD ab c n n (ko r.G (y k) d)->Sub [(65,.int .i64 (k:Int)),(64,.int .i64 (M:Int)),(3,dB),(8,w),(10,.slice (some ⟨c,0,none⟩) n n),(13,u),(63,D9)] aU->Q .normal aU ab):
 wp X pm (.code te) L H [] Q:=by
 obtain⟨R,_,_,_⟩:=xx J I hn;have aK:=R.len;obtain⟨ao,ar,rfl,au⟩:=aa.at;obtain⟨bw,cw,aw,_⟩:=(O H fg.refl).ex;subst aw;simp[P,hr,b9.cells,-H7]
 refine er (σ:=Unit) r.G.length (λp _=>[(14,.int .i64 (k:Int)),(15,.pointer (some ⟨c4,0,none⟩)),(105,.slice ao r.G.length ar),(65,.int .i64 (k:Int)),(64,.int .i64 (M:Int)),(3,dB),(8,.slice bw m cw),(10,.slice (some ⟨c,0,none⟩) n n),(13,u),(63,D9)])
  (λp _ ab=>K pm ai ab/\fg c H ab/\dD ab c n n (ko (r.G.take p) (y k) d)) () (by simp[l3,l8,ae,af,ag,P,ah,aj,al]) ⟨Z,fg.refl,hd⟩ ?_ ?_
 ·rintro p _ o H ⟨B,L,ab⟩;obtain⟨_,_,_,_,_,rfl,e2,e3,e4,b,M,rfl⟩:=au p H;obtain⟨C,h2,_,_⟩:=R.all b (cX M);obtain⟨j,hj⟩:∃j:Nat,b.ad=(j:Int):=⟨b.ad.toNat,by omega⟩;have t:j<n:=by omega
  have ax:b.ad.toNat=j:=by omega
  obtain⟨_,_,u,ay⟩:=(O o L).ex;cases u;obtain⟨_,_,_,_,az,rfl,f2,f3,f4,f5⟩:=ay k av;have f:=B.q;have aA:=B.some G e2;obtain⟨h,D⟩:∃h,h=(o.new (.cells [.int .i64 0,.string ⟨#[]⟩] (.t T.H4))).put o.next (.cells [.int .i64 b.ad,ak b.v] (.t T.H4)):=⟨_,rfl⟩;have i:K pm o h:=by rw[D];exact gh f _ _
  have v:h.get o.next=some (.cells [.int .i64 b.ad,ak b.v] (.t T.H4)):=by rw[D];exact bO
  have a:=i.q;have Q:=i.some f f2;obtain⟨ps,w,d2,S⟩:=ab.k f i;obtain⟨pj,aB,aD⟩:=S j t;have aE:=a.lt v;have aF:=a.lt w;have aG:=a.lt Q;have g:K pm h (h.up 19):=(K.refl a).up 19;have aH:=Sm J I z ad p;have aI:∀o,Perm.may ⟨pm.ah,pm.ok,o⟩ c=true:=λo=>by
   have:=G.may N;exact this
  simp[H,aA,e3,e4,f.pick,f.make,f.may (bc _),ptr,bA,dL.cells,<-D];refine cx.of a.ah rfl ?_;simp[b8,a.none,a.O,v,hj,t,av,Q,f3,f4,w,aB];refine cY g.q (aq:=[ak b.v]) (by simp[a.none]) rfl (λU q=>o' (aY:=by have:=C;unfold dL.ok at this;omega) A q h2) ?_;rintro h _ e E;have o:=e.res a;have F:=((f5.up i).up g).up e;simp;refine cY e.q (aq:=[h,az]) (by simp[o]) rfl (λU q=>og A.toEL q E.of F.of (jf C) (z.bo (by decide))) ?_;rintro h _ l V;have o:=(K.trans e l).res a;have aJ:aV (rd b.v*y k) 20000:=dY (jk (hf (k:=10000) C) z) (by omega);have W:=((aD.up g).up e).up l;simp;refine cY l.q (aq:=[pj,h]) (by simp[o]) rfl (λU q=>Be A.toEL q W.of V.of ((aH j).bo (a8 (Nat.add_le_add_right ht _) (by decide))) (aJ.bo (by decide))) ?_;rintro _ _ h X;have x:=g.trans (K.trans (K.trans e l) h);have r3:=(K.trans (K.trans e l) h).res a;have Y:=x.some a w;obtain⟨up,dp⟩:=dD.put (m:=ai.next) h.q N Y d2 (λs h=>(S s h).imp λ_ o=>⟨o.1,o.2.up x⟩) t X (dy:=n) (λs h=>.inr h);obtain⟨_,rfl,_⟩:=id X;have h:=(g.trans e).some a v;have o:=(g.trans e).some a w;have q:=(K.trans (g.trans e) l).some a v;have a:=λm=>kI E F h m;have e:=λm=>kI E F o m;have g:=λm=>kI W V q m;have h:j<ps.length:=by omega
  simp[r3,Y,t,h,aI,b3,bZ,aE,aF,aG,fT,cU,l0,a,e,g];have a:r.G.take (p+1)=r.G.take p++[b]:=by rw[List.take_add_one,M];rfl
  refine⟨aC.trans (B.trans (i.trans x)) up,L.trans (fg.trans ((K.trans i x).uq f) fg.put),?_⟩;rw[a,ko,List.foldl_append];refine dp.congr λs _=>?_;show n6 (y k) (ko (r.G.take p) (y k) d) b s=_;rw[n6,ax];by_cases u:s=j
  ·simp[u]
  ·simp[u]
 ·rintro _ _ ⟨b,c,a⟩;rw[xj]at a;simp;exact an _ _ b c a (by simp)
theorem TU(j:fA X)(A:bl pm ai)(I:K pm ai H){aa:ar}(d:aa.ok)(B:aa.I=true){bQ:Bool}{b c:Nat}{z:cM}{J C:Option Addr}{cap p:Nat}{u w:Value}{y:Nat->Rat}(Y:hO ai (.slice J aa.a.length cap) aa.a)(Z:jn ai (.slice C aa.rows.length p) aa.rows)
 (N:H.get b=some (.cells [.slice J aa.a.length cap,.slice C aa.rows.length p] z)) (ad:b≠c) (ae:ai.next<=c) (hd:dD H c aa.a.length aa.a.length (d0 aa bQ)) (D:∀ab,fg c H ab->jM ab w aa.rows.length y) (e:∀i,aV (y i) 10000) (hu:b4 H u 0)
 {L:bn} (O:aF 3 L=some (.pointer (some ⟨b,0,none⟩))) (l8:aF 8 L=some w) (af:aF 10 L=some (.slice (some ⟨c,0,none⟩) aa.a.length aa.a.length)) (ag:aF 13 L=some u) {Q:cl}
 (P:∀x l ab,pJ [.slot 6,.slot 7] (λr ab=>K pm ai ab/\r=lG (ue aa bQ y)) x l ab->Q x l ab):wp X pm (.code w0) L H [] Q:=by
 have R:=d.c;have J:=d.r;obtain⟨_,_,ah,aj⟩:=Z.at;cases ah;have J:=I.q;simp[O,N,-zy,-H8]
 refine er (σ:=Value) aa.rows.length (λk v=>[(3,.pointer (some ⟨b,0,none⟩)),(8,w),(10,.slice (some ⟨c,0,none⟩) aa.a.length aa.a.length),(13,v),(63,.slice C aa.rows.length p)])
  (λk v ab=>K pm ai ab/\fg c H ab/\dD ab c aa.a.length aa.a.length (q8 aa bQ y k)/\b4 ab v (uS aa y k)/\tD aa y k=true) u (by simp[O,l8,af,ag]) ⟨I,fg.refl,hd,hu,rfl⟩ ?_ ?_
 ·rintro k v q h ⟨x,X,z,hv,ai⟩;obtain⟨b',al,_,_,_,rfl,e2,e3,e4,r,H,L,rfl,Q⟩:=aj k h;have C:=cX L;have s:=ar.Sr L;have S:=uK B C;have E:=d.rs r C;obtain⟨_,q2,_,_⟩:=xx S E R;have f:=x.q;have an:=x.some A e2;obtain⟨_,C,_,_⟩:=id z;have I:=f.lt C;obtain⟨g,F⟩:∃g,g=(q.new (.cells [.string ⟨#[]⟩,.int .i64 0,.slice none 0 0,.string ⟨#[]⟩,.string ⟨#[]⟩] (.t T.H3))).put q.next (.cells [ak r.name,.int .i64 r.kind,H,ak r.rhs,ak r.tw] (.t T.H3)):=⟨_,rfl⟩;have l:K pm q g:=by rw[F];exact gh f _ _
  have m:g.get q.next=some (.cells (r.cells H) (.t T.H3)):=by rw[F];exact bO
  have a:=l.q;have U:=x.trans l;have G:=X.trans (l.uq f);obtain⟨_,_,rfl,_⟩:=Q.at;simp[h,an,e3,e4,f.pick,f.make,f.may (bc _),ptr,bA,b9.cells,<-F,-CV];refine TX j a m (D g G) h ((e k).bo (by decide)) (by simp) (by simp) (by simp) (λq x l6 l7=>?_) (λao x c=>?_)
  ·simp only[Up,Eb,Ec,J0];refine P _ _ _ ?_;have:tD aa y aa.rows.length=false:=by
    rw[lz];intro b;have:=DL.1 b k h;rw[xF,s,q]at this;cases this
   simp[l6,l7,ue,this,lG];exact U
  ·obtain⟨_,_,ar,au⟩:=(D g G).ex;subst ar;obtain⟨_,_,_,_,av,rfl,T,f3,f4,f5⟩:=au k h;have aw:=λq=>Gj (bQ:=bQ) d B e k (by omega) q;have ax:=a.lt m;have ay:=a.lt T;have w:K pm g (g.up 11):=(K.refl a).up 11;have V:=E.1;simp only[b9.cells]at m;simp[-te];refine cx.of a.ah rfl ?_;simp[b8,a.none,a.O,c,m,h,T,f3,f4,-te];refine cY w.q (aq:=[ak r.rhs]) (by simp[a.none]) rfl (λW n=>o' j n q2) ?_;rintro g _ i f1;have q:=i.res a;simp[-te];refine fG i.q (aq:=[av,g]) (by simp[q]) rfl (λW n=>og j.toEL n ((f5.up w).up i).of f1.of ((e k).bo (by decide)) (jf V)) ?_;rintro g _ o f6;have q:=(K.trans i o).res a;have az:=(((hv.up l).up w).up i).up o;have aA:aV (y k*rd r.rhs) 20000:=dY (jk (e k) (hf (k:=10000) V)) (by omega);simp[-te];refine fG o.q (aq:=[v,g]) (by simp[q]) rfl (λW n=>n8 j.toEL n az.of f6.of ((Rv d e (by omega)).bo (by decide)) (aA.bo (by decide))) ?_;rintro n _ q x;have C:=(K.trans (K.trans i o) q).res a;have g:=w.trans (K.trans (K.trans i o) q);simp[C,b3,bZ,ax,ay,fT,cU,l0,-te];have o:=U.trans g;have i:=G.trans (g.uq a);have q:=g.some a m;refine TW j A o (dB:=.pointer (some ⟨b,0,none⟩)) (u:=n) (D9:=.slice (some ⟨b',al,none⟩) aa.rows.length p) (M:=aa.rows.length) E S R Q q (by omega) ae ((z.k f l).k a g) (λab m=>D ab (i.trans m)) h (e k) (t:=10000+k*20001) (by omega) aw (by simp[c]) (by simp[c]) (by simp[c]) (by simp) (by simp[c]) (by simp[c]) (by simp[c]) (by simp[c]) (by simp[c]) (λ_ h m c o p=>?_);obtain⟨_,q,_,_⟩:=((z.k f l).k a g);have a:b4 h n (uS aa y (k+1)):=by
    have:uS aa y (k+1)=uS aa y k+y k*rd r.rhs:=by simp[uS,aS,s]
    rw[this];exact c.dr q x
   refine⟨n,by simpa using p,m,i.trans c,?_,a,?_⟩
   ·simpa [q8,s]using o
   ·rw[tD,ai,xF,s,ao];rfl
 ·rintro v _ ⟨a,c,f,g,h⟩;simp[-zy];have i:=λk=>Gj (bQ:=bQ) d B e aa.rows.length (bc _) k;refine TV j A a d Y (c b _ ad N) f g (t:=10000+aa.rows.length*20001) (by omega) i (Rv d e (bc _)) (by simp) (by simp) (by simp) λx l ab a=>P x l ab ?_;simpa [ue,h]using a
theorem TT(o:fA X)(t:bl pm ai)(C:K pm ai H){aa:ar}(u:aa.ok)(D:aa.I=true){bQ:Bool}{b c:Nat}{z:cM}{v E:Option Addr}{cap F:Nat}{w:Value}{y:Nat->Rat}(G:hO ai (.slice v aa.a.length cap) aa.a)(V:jn ai (.slice E aa.rows.length F) aa.rows)
 (I:H.get b=some (.cells [.slice v aa.a.length cap,.slice E aa.rows.length F] z)) (J:b≠c) (p:ai.next<=c) (W:dD H c aa.a.length 0 (d0 aa bQ)) (Y:∀ab,fg c H ab->jM ab w aa.rows.length y) (Z:∀i,aV (y i) 10000)
 {L:bn} (l2:aF 2 L=some (.bool bQ)) (M:aF 3 L=some (.pointer (some ⟨b,0,none⟩))) (l8:aF 8 L=some w) (ad:aF 10 L=some (.slice (some ⟨c,0,none⟩) aa.a.length aa.a.length)) {Q:cl}
 (hQ:∀x l ab,pJ [.slot 6,.slot 7] (λr ab=>K pm ai ab/\r=lG (ue aa bQ y)) x l ab->Q x l ab):wp X pm (.code CW) L H [] Q:=by
 have E:=u.c;obtain⟨_,_,e,ae⟩:=G.at;cases e;have E:=C.q;have N:pm.may c=true:=t.may p;simp[M,I,-w0,-H9]
 refine er (σ:=Unit) aa.a.length (λk _=>[(2,.bool bQ),(3,.pointer (some ⟨b,0,none⟩)),(8,w),(10,.slice (some ⟨c,0,none⟩) aa.a.length aa.a.length),(42,.slice v aa.a.length cap)])
  (λk _ ab=>K pm ai ab/\fg c H ab/\dD ab c aa.a.length k (d0 aa bQ)) () (by simp[l2,M,l8,ad]) ⟨C,fg.refl,W⟩ ?_ ?_
 ·rintro k _ d f ⟨w,X,y⟩;obtain⟨_,_,_,_,_,rfl,e2,e3,e4,a,L,rfl⟩:=ae k f;have v:=cX L;have ab:=ar.q7 L;have af:=F' (uJ D v);have C:=(u.cs a v).2.2;have b:=w.q;have ag:=w.some t e2;obtain⟨l,z⟩:∃l,l=(d.new (.cells [.string ⟨#[]⟩,.string ⟨#[]⟩,.string ⟨#[]⟩,.string ⟨#[]⟩,.bool false] (.t T.CU))).put d.next (.cells [ak a.name,ak a.low,ak a.up,ak a.cost,.bool a.int] (.t T.CU)):=⟨_,rfl⟩;have q:K pm d l:=by rw[z];exact gh b _ _
  have ah:l.get d.next=some (.cells [ak a.name,ak a.low,ak a.up,ak a.cost,.bool a.int] (.t T.CU)):=by rw[z];exact bO
  have r:=q.q;simp[f,ag,e3,e4,b.pick,b.make,b.may (bc _),ptr,bA,a1.cells,<-z,-Ia];refine al.of (aq:=[.int .i64 0]) (ml o.toEL r (n:=0) (by omega) (by omega)) ?_;rintro _ H3 ⟨g,O⟩;obtain⟨P,Q,l,v⟩:=(y.k b q).k r g;have R:=q.trans g;have aj:k<P.length:=by omega
  obtain⟨h,A⟩:=dD.put (m:=ai.next) (x:=d0 aa bQ) g.q p Q l v f O (dy:=k+1) (λi B=>by omega);obtain⟨an,rfl,_⟩:=id O;have l:=(y.k b q).k r g;have ao:d.next≠c:=λe=>by
   obtain⟨_,c,_,_⟩:=y;have:=b.lt c;omega
  have ar:=g.some r ah;obtain⟨j,s⟩:∃j,j=H3.put c (.cells (P.set k (.pointer (some ⟨an,0,none⟩))) (.n 1)):=⟨_,rfl⟩;rw[<-s]at h A;have au:j.get d.next=some (.cells [ak a.name,ak a.low,ak a.up,ak a.cost,.bool a.int] (.t T.CU)):=by rw[s,a6 ao];exact ar
  have S:fg c H j:=X.trans (fg.trans (R.uq b) (by rw[s];exact fg.put));have U:K pm ai j:=aC.trans (w.trans R) h;simp[f,Q,aj,N,<-s]
  cases bQ with
  | false=>
    simp;refine⟨U,S,A.congr λi B=>?_⟩;by_cases e:i=k<;>simp[e,d0]
  | true=>
    simp[au];refine al.of (aq:=[ak a.cost]) (o' o h.q af) ?_;rintro _ _ ⟨c,n⟩;obtain⟨a,x,b,d⟩:=A.k h.q c;have H:k<a.length:=by omega
    obtain⟨K,T⟩:=dD.put (m:=ai.next) c.q p x b d f n (dy:=k+1) (λi B=>by omega);obtain⟨_,rfl,_⟩:=id n;simp[f,x,H,N];refine⟨aC.trans (U.trans c) K,S.trans (fg.trans (c.uq h.q) fg.put),T.congr λi B=>?_⟩;by_cases e:i=k
    ·subst e;simp[d0,ab]
    ·simp[e]
 ·rintro _ _ ⟨a,e,f⟩;simp[-w0];refine al.of (aq:=[.int .i64 0]) (ml o.toEL a.q (n:=0) (by omega) (by omega)) ?_;rintro _ _ ⟨c,g⟩;have d:=e.trans (c.uq a.q);simp[-w0];exact TU o t (a.trans c) u D G V (d b _ J I) J p (f.k a.q c) (λab h=>Y ab (d.trans h)) Z (by simpa using g) (by simp) (by simp) (by simp) (by simp) hQ
theorem Mr(d:fA X)(g:bl pm H){v w:Value}{aa:ar}{xs:List (List UInt8)}{bQ:Bool}(A:kA H v aa)(j:aa.ok)(M:fp H w xs)(k:jO xs):
 Call X pm F.p' [v,w,.bool bQ] H λr ab=>K pm H ab/\r=lG (eX aa xs bQ):=by
 refine Call.W d.p' rfl λQ B=>?_;have N:=A;obtain⟨_,_,rfl,C,D⟩:=A;obtain⟨l,n,rfl,_⟩:=C.at;obtain⟨o,p,rfl,_⟩:=D.at;have A:=j.c;obtain⟨e,q⟩:∃e,e=H.new (.cells [.slice l aa.a.length n,.slice o aa.rows.length p] (.t T.Rx)):=⟨_,rfl⟩;have c:K pm H e:=by rw[q];exact K.new g _
 have a':e.get H.next=some (.cells [.slice l aa.a.length n,.slice o aa.rows.length p] (.t T.Rx)):=by rw[q];exact cc
 obtain⟨e,E⟩:∃e,e=H.next:=⟨_,rfl⟩;rw[<-E]at a';simp[g.pick,g.make,ptr,<-q,<-E,a',-Ic];refine al.of (aq:=[w,.int .i64 (aa.rows.length:Int)]) (zu d c.q (M.ext (c.ext g)) k.len k.lt) ?_;have s:∀{e:bn} {ab:ae},K pm H ab->dJ aa xs aa.rows.length=false->aF 6 e=some (ak [])->aF 7 e=some (.bool false)->Q .ret e ab:=λe h q A=>B _ _ _ (by simp[q,A,eX,h,lG];exact e);rintro _ O ⟨t,⟨h,rfl⟩ | ⟨h,P,rfl,G⟩⟩
 ·simp[aR];refine al.not ?_;simp[aR];exact s (c.trans t) (by simp[dJ,h]) (by simp) (by simp)
 have a:=c.trans t;have I:=t.some c.q a';by_cases f:xs.length=aa.rows.length
 ·simp[f,I,bB,bA,-Ib];refine al.of (aq:=[.agg #[.slice l aa.a.length n,.slice o aa.rows.length p]]) (qV d a.q (N.ext (a.ext g)) j) ?_;rintro _ r ⟨i,rfl⟩;have b:=a.trans i;cases u:aa.I
  ·simp;exact s b (by simp[dJ,u]) (by simp) (by simp)
  ·rw[f]at G;have v:=i.some a.q I;have R:dJ aa xs aa.rows.length=true:=by simp[dJ,h,f,u]
   simp[v,nO (b7:=show aa.a.length<=1073741824 by omega) (cH:=show 8*aa.a.length<=17179869184 by omega) b.q.tock,-CW];have x:K pm r (r.new (.cells (times [.pointer none] aa.a.length) (.n 1))):=K.new b.q _;have S:∀m,(times [Value.pointer none] m).length=m:=λm=>by
    induction m with
    | zero=>rfl
    | succ m ih=>rw[times,o4,ih];simp;omega
   have c:=b.q.lt v;refine TT (bQ:=bQ) d g (b.trans x) j u C D (x.some b.q v) (by omega) b.next ⟨_,cc,S _,λF z=>absurd z (gS _)⟩ (w:=P) (y:=bU xs) (λab H=>?_) (z8 k.all) (by simp) (by simp) (by simp) (by simp) λb l ab T=>B b l ab ?_
   ·obtain⟨U,V,rfl,W⟩:=G.ex;refine⟨U,V,rfl,λF z=>?_⟩;obtain⟨g,X,w,Y,Z,rfl,y,f3,f4,f5⟩:=W F z;have J:=i.trans x;have b:=a.q.lt y;have b:O.next<=r.next:=i.next;refine⟨g,X,w,Y,Z,rfl,H g w (by omega) (J.some a.q y),f3,f4,?_⟩;obtain⟨K,rfl,L⟩:=f5;have b:=a.q.lt L;exact⟨K,rfl,H K _ (by omega) (J.some a.q L)⟩
   ·simpa [eX,R]using T
 ·have:¬((xs.length:Int)=(aa.rows.length:Int)):=by omega
  simp[this,aR];refine al.not (a':=by simp) ?_;simp[aR];exact s a (by simp[dJ,f]) (by simp) (by simp)
end Go.Dam.C
namespace Go.Dam.C
theorem c9{f g:Nat->Rat}:∀{n:Nat},(∀i,i<n->f i=g i)->aS f n=aS g n
 | 0,_=>rfl
 | n+1,h=>by rw[aS,aS,c9 λi _=>h i (by omega),h n (by omega)]
theorem kr(f g:Nat->Rat):∀n,aS (λi=>f i+g i) n=aS f n+aS g n
 | 0=>by simp[aS,lB]
 | n+1=>by rw[aS,aS,aS,kr f g n];grind
theorem fP(c:Rat)(f:Nat->Rat):∀n,aS (λi=>c*f i) n=c*aS f n
 | 0=>by simp[aS]
 | n+1=>by rw[aS,aS,fP c f n];grind
theorem ng{f:Nat->Rat}{n:Nat}(h:∀i,i<n->f i=0):aS f n=0:=by
 induction n with
 | zero=>rfl
 | succ n ih=>rw[aS,ih λi _=>h i (by omega),h n (by omega),lB]
theorem nf{f:Nat->Rat}{n j:Nat}(a:j<n)(h:∀i,i<n->i≠j->f i=0):aS f n=f j:=by
 induction n with
 | zero=>omega
 | succ n ih=>
   rw[aS];by_cases e:j=n
   ·subst e;rw[ng λi _=>h i (by omega) (by omega)];grind
   grind
theorem pk{f:Nat->Rat}{n j:Nat}(a:j<n):aS f n=f j+aS (λi=>if i=j then 0 else f i) n:=by
 have h:aS f n=aS (λi=>(if i=j then f i else 0)+(if i=j then 0 else f i)) n:=c9 λi _=>by
  grind
 rw[h,kr,nf (j:=j) a λi _ a=>by simp[a]];simp
theorem Aq(f:Nat->Nat->Rat)(n:Nat):∀m,aS (λi=>aS (λj=>f i j) n) m=aS (λj=>aS (λi=>f i j) m) n
 | 0=>by simp only[aS];rw[ng λ_ _=>rfl]
 | m+1=>by simp only[aS];rw[Aq f n m,<-kr]
theorem abw(f g:Nat->Rat)(n:Nat):aS (λi=>f i-g i) n=aS f n-aS g n:=by
 have:=kr f (λi=>(-1)*g i) n;rw[fP]at this;grind
theorem Ar{f g:Nat->Rat}:∀{n:Nat},(∀i,i<n->f i<=g i)->aS f n<=aS g n
 | 0,_=>kW
 | n+1,h=>by
   rw[aS,aS];have a:=Ar (n:=n) λi _=>h i (by omega);grind
theorem JF{f:Nat->Rat}{n:Nat}(h:∀i,i<n->0<=f i):0<=aS f n:=by
 have:=Ar (f:=λ_=>0) (n:=n) h;rwa [ng λ_ _=>rfl]at this
theorem abv{f:Nat->Rat}{n j:Nat}(a:j<n)(h:∀i,i<n->0<=f i)(b:0<f j):0<aS f n:=by
 rw[pk a];have:0<=aS (λi=>if i=j then 0 else f i) n:=JF λi _=>by
  grind
 grind
def eL(p:Nat->Bool)(a:Nat->Nat):Nat->Option Nat
 | 0=>none
 | k+1=>match eL p a k with
   | none=>if p k=true then some k else none
   | some b=>if p k=true/\a k<a b then some k else some b
theorem yo{p:Nat->Bool}{a:Nat->Nat}:∀{n:Nat},eL p a n=none->∀j,j<n->p j=false
 | 0,_,j,b=>absurd b (gS _)
 | n+1,h,j,_=>by
   rw[eL]at h
   cases e:eL p a n with
   | none=>
     rw[e]at h;simp only at h;by_cases a:p n=true
     ·grind
     ·by_cases a:j=n
      ·grind
      ·exact yo e j (by omega)
   | some _=>
     grind
theorem j'{p:Nat->Bool}{a:Nat->Nat}:∀{n b:Nat},eL p a n=some b->b<n/\p b=true/\∀j,j<n->p j=true->a b<=a j
 | 0,_,h=>by cases h
 | n+1,b,h=>by
   rw[eL]at h
   cases e:eL p a n with
   | none=>
     rw[e]at h;simp only at h;by_cases b:p n=true
     ·rw[aL b]at h;cases h;refine⟨by omega,b,λj _ c=>?_⟩;by_cases d:j=n
      ·subst d;exact bc _
      ·have:=yo e j (by omega);rw[this]at c;cases c
     grind
   | some _=>
     rw[e]at h;obtain⟨_,_,_⟩:=j' e;grind
section
variable{ef:Nat->Nat->Prop}{gQ dq:Nat->Nat}{L:Nat}
theorem Nl(b7:∀t,t<L->∀x,ef (t+1) x↔(x=dq t∨(ef t x/\x≠gQ t))){x a:Nat}:∀d,a+d<=L->¬ef a x->ef (a+d) x->∃u,a<=u/\u<a+d/\dq u=x
 | 0,_,a,b=>absurd b a
 | d+1,_,c,b=>by
   have b:ef (a+d+1) x:=b;rcases(b7 (a+d) (by omega) x).1 b with h | ⟨h,_⟩
   ·grind
   ·obtain⟨u,b7,_,_⟩:=Nl b7 d (by omega) c h;grind
theorem Nn(b7:∀t,t<L->∀x,ef (t+1) x↔(x=dq t∨(ef t x/\x≠gQ t))){x a:Nat}:∀d,a+d<=L->ef a x->¬ef (a+d) x->∃u,a<=u/\u<a+d/\gQ u=x
 | 0,_,a,b=>absurd a b
 | d+1,_,c,b=>by
   have b:¬ef (a+d+1) x:=b;by_cases b:ef (a+d) x
   ·grind
   ·obtain⟨u,b7,_,_⟩:=Nn b7 d (by omega) c b;grind
theorem Qd{p:Nat->Prop}{a b:Nat}(f:a<=b)(f:p b):∃c,a<=c/\c<=b/\p c/\∀u,a<=u->u<c->¬p u:=by
 obtain⟨d,rfl⟩:∃d,b=a+d:=⟨b-a,by omega⟩
 induction d using Nat.strongRecOn with
 | _ d ih=>
   by_cases h:∃u,a<=u/\u<a+d/\p u
   ·obtain⟨u,_,_,b⟩:=h;obtain⟨e,rfl⟩:∃e,u=a+e:=⟨u-a,by omega⟩;obtain⟨c,d,_,f,g⟩:=ih e (by omega) (by omega) b;exact⟨c,d,by omega,f,g⟩
   grind
theorem Fg(b7:∀t,t<L->∀x,ef (t+1) x↔(x=dq t∨(ef t x/\x≠gQ t)))(cH:∀t,t<L->ef t (gQ t)/\¬ef t (dq t))
 (k:∀s t r,s<t->t<L->gQ s=r->dq t=r->(∀u,s<=u->u<=t->gQ u<=r/\dq u<=r)->(∀u,s<u->u<t->dq u≠r)->False):
 ∀K a,(∀u,a<=u->u<a+3^K->gQ u<K/\dq u<K)->a+3^K<=L->False
 | 0,a,h,_=>absurd (h a (bc _) (by simp)).1 (gS _)
 | K+1,a,l,_=>by
   have b:3^(K+1)=3^K+3^K+3^K:=by rw[eB];omega
   have b:0<3^K:=u6 (by decide);generalize m:3^K=q at*
   have h:∀b,a<=b->b+q<=a+3^(K+1)->∃u,b<=u/\u<b+q/\(gQ u=K∨dq u=K):=by
    intro b n _;apply o3;intro _;refine Fg b7 cH k K b (λu _ a=>?_) (by rw[m];omega);rw[m]at a;obtain⟨_,_⟩:=l u (by omega) (by omega);refine⟨?_,?_⟩
    ·grind
    ·grind
   have b:∀s t,a<=s->s<t->t<a+3^(K+1)->gQ s=K->dq t=K->False:=by
    intro s t _ a b i j;obtain⟨g,_,_,o,r⟩:=Qd (p:=λu=>dq u=K) (show s+1<=t from a) j;refine k s g K (by omega) (by omega) i o (λu a g=>?_) λu a g=>r u a g;obtain⟨_,_⟩:=l u (by omega) (by omega);omega
   obtain⟨c,_,_,d⟩:=h a (bc _) (by omega);obtain⟨e,_,_,f⟩:=h (a+q) (by omega) (by omega);obtain⟨_,_,_,_⟩:=h (a+q+q) (by omega) (by omega);have i:∀t,t<L->gQ t=K->¬ef (t+1) K:=λt b h n=>by
    grind
   have j:∀t,t<L->dq t=K->ef (t+1) K:=λt b h=>(b7 t b K).2 (.inl h.symm);have h:∀s t,a<=s->s<t->t<a+3^(K+1)->gQ s=K->(gQ t=K∨dq t=K)->False:=by
    intro s t _ _ b o g
    rcases g with g | g
    ·obtain⟨u,_,_,_⟩:=Nl b7 (a:=s+1) (x:=K) (t-(s+1)) (by omega) (i s (by omega) o) (by
      rw[show s+1+(t-(s+1))=t by omega,<-g];exact(cH t (by omega)).1)
     grind
    ·grind
   rcases d with d | d
   ·grind
   ·rcases f with f | f
    ·grind
    ·obtain⟨u,_,_,_⟩:=Nn b7 (a:=c+1) (x:=K) (e-(c+1)) (by omega) (j c (by omega) d) (by
      rw[show c+1+(e-(c+1))=e by omega,<-f];exact(cH e (by omega)).2)
     grind
end
structure bM where
 n:Nat
 m:Nat
 ah:Nat->Option Rat
 up:Nat->Option Rat
 A:Nat->Nat->Rat
structure bu where
 v:Nat->Rat
 rows:Nat->Nat
 a:Nat->Nat
 M:Nat->Nat->Rat
def vC(P:bM)(z:Nat->Rat):Prop:=∀i,i<P.m->z (P.n+i)=aS (λj=>P.A i j*z j) P.n
def ye(P:bM)(T:bu)(z:Nat->Rat):Prop:=∀i,i<P.m->z (T.rows i)=aS (λk=>T.M i k*z (T.a k)) P.n
structure dT(P:bM)(T:bu):Prop where
 r:∀i,i<P.m->T.rows i<P.n+P.m
 c:∀k,k<P.n->T.a k<P.n+P.m
 na:∀i j,i<P.m->j<P.m->T.rows i=T.rows j->i=j
 ci:∀i j,i<P.n->j<P.n->T.a i=T.a j->i=j
 rc:∀i k,i<P.m->k<P.n->T.rows i≠T.a k
 jQ:∀x,x<P.n+P.m->(∃i,i<P.m/\T.rows i=x)∨∃k,k<P.n/\T.a k=x
structure Inv(P:bM)(T:bu):Prop where
 B:dT P T
 ep:∀z,vC P z↔ye P T z
 val:vC P T.v
 sum:∀f:Nat->Rat,aS (λk=>f (T.a k)) P.n+aS (λi=>f (T.rows i)) P.m=aS f P.n+aS (λi=>f (P.n+i)) P.m
def eR(T:bu)(a ad k:Nat):Rat:=if k=ad then 1/T.M a ad else -(T.M a k)/T.M a ad
def bu.X(T:bu)(a ad:Nat):bu where
 v:=T.v
 rows:=λi=>if i=a then T.a ad else T.rows i
 a:=λk=>if k=ad then T.rows a else T.a k
 M:=λi k=>if i=a then eR T a ad k else if k=ad then T.M i ad*eR T a ad ad else T.M i k+T.M i ad*eR T a ad k
def hb(T:bu)(ad:Nat)(q:Rat):Nat->Nat->Rat
 | 0=>λx=>if x=T.a ad then T.v x+q else T.v x
 | i+1=>λx=>if x=T.rows i then hb T ad q i x+T.M i ad*q else hb T ad q i x
def bu.gR(P:bM)(T:bu)(ad:Nat)(q:Rat):bu:={T with v:=hb T ad q P.m}
section
variable{P:bM}{T:bu}
theorem dT.X(h:dT P T){a ad:Nat}(aI:a<P.m)(d:ad<P.n):dT P (T.X a ad) where
 r:=λi b=>by
  show(if i=a then _ else _)<_;split
  ·exact h.c ad d
  ·exact h.r i b
 c:=λk f=>by
  show(if k=ad then _ else _)<_;split
  ·exact h.r a aI
  ·exact h.c k f
 na:=λi j b g e=>by
  have e:(if i=a then T.a ad else T.rows i)=(if j=a then T.a ad else T.rows j):=e;by_cases c:i=a<;>by_cases l:j=a<;>simp only[c,l,if_true,if_false]at e
  ·omega
  ·exact absurd e.symm (h.rc j ad g d)
  ·exact absurd e (h.rc i ad b d)
  ·exact h.na i j b g e
 ci:=λi j b g e=>by
  have e:(if i=ad then T.rows a else T.a i)=(if j=ad then T.rows a else T.a j):=e;by_cases c:i=ad<;>by_cases l:j=ad<;>simp only[c,l,if_true,if_false]at e
  ·omega
  ·exact absurd e (h.rc a j aI g)
  ·exact absurd e.symm (h.rc a i aI b)
  ·exact h.ci i j b g e
 rc:=λi k b f e=>by
  have e:(if i=a then T.a ad else T.rows i)=(if k=ad then T.rows a else T.a k):=e;by_cases c:i=a<;>by_cases g:k=ad<;>simp only[c,g,if_true,if_false]at e
  ·exact absurd e.symm (h.rc a ad aI d)
  ·exact g (h.ci _ _ f d e.symm)
  ·exact c (h.na _ _ b aI e)
  ·exact h.rc i k b f e
 jQ:=λx m=>by
  rcases h.jQ x m with⟨i,b,e⟩ | ⟨k,f,e⟩
  ·by_cases c:i=a
   ·exact .inr ⟨ad,d,by show(if ad=ad then _ else _)=x;grind⟩
   ·exact .inl ⟨i,b,by show(if i=a then _ else _)=x;grind⟩
  ·by_cases b:k=ad
   ·exact .inl ⟨a,aI,by show(if a=a then _ else _)=x;grind⟩
   ·exact .inr ⟨k,f,by show(if k=ad then _ else _)=x;grind⟩
theorem ye.X(_:dT P T){a ad:Nat}(aI:a<P.m)(g:ad<P.n)(n:T.M a ad≠0)(z:Nat->Rat):ye P T z↔ye P (T.X a ad) z:=by
 obtain⟨p,c⟩:∃p,p=T.M a ad:=⟨_,rfl⟩;have d:∀(f:Nat->Rat),aS (λk=>f k*z ((T.X a ad).a k)) P.n=f ad*z (T.rows a)+aS (λk=>if k=ad then 0 else f k*z (T.a k)) P.n:=λf=>by
  rw[pk g];congr 1
  ·show f ad*z (if ad=ad then _ else _)=_;rw[aL rfl]
  ·refine c9 λk _=>?_;by_cases e:k=ad
   ·simp[e]
   ·show(if k=ad then 0 else f k*z (if k=ad then _ else _))=_;grind
 have j:∀(f:Nat->Rat),aS (λk=>f k*z (T.a k)) P.n=f ad*z (T.a ad)+aS (λk=>if k=ad then 0 else f k*z (T.a k)) P.n:=λf=>pk g;obtain⟨R,b⟩:∃R:(Nat->Rat)->Rat,∀f,R f=aS (λk=>if k=ad then 0 else f k*z (T.a k)) P.n:=⟨_,λ_=>rfl⟩;have f:R (eR T a ad)=-(1/p)*R (T.M a):=by
  rw[b,b,<-fP];refine c9 λk _=>?_;by_cases e:k=ad
  ·grind
  ·simp only[e,if_false,eR,<-c];grind
 have l:z (T.rows a)=aS (λk=>T.M a k*z (T.a k)) P.n↔z (T.a ad)=aS (λk=>eR T a ad k*z ((T.X a ad).a k)) P.n:=by
  rw[d,j,<-b,<-b,f];have e:eR T a ad ad=1/p:=by simp[eR,c]
  rw[e,<-c];have e:p≠0:=by rw[c];exact n
  constructor<;>intro _<;>grind
 have m:∀i,i≠a->z (T.a ad)=aS (λk=>eR T a ad k*z ((T.X a ad).a k)) P.n->aS (λk=>(T.X a ad).M i k*z ((T.X a ad).a k)) P.n=aS (λk=>T.M i k*z (T.a k)) P.n:=by
  intro i e c;rw[d]at c;rw[d,j,<-b];rw[<-b]at c|-;have h:(T.X a ad).M i ad=T.M i ad*eR T a ad ad:=by
   show(if i=a then _ else if ad=ad then _ else _)=_;rw[aw e,aL rfl]
  have c:R ((T.X a ad).M i)=R (T.M i)+T.M i ad*R (eR T a ad):=by
   rw[b,b,b,<-fP,<-kr];refine c9 λk _=>?_;by_cases e:k=ad
   ·grind
   ·show(if k=ad then 0 else(if i=a then _ else if k=ad then _ else _)*_)=_;grind
  rw[h,c];grind
 constructor
 ·intro h i o;by_cases e:i=a
  ·subst e;have:=l.1 (h i aI);show z (if i=i then _ else _)=aS (λk=>(if i=i then _ else _)*_) P.n;grind
  ·show z (if i=a then _ else _)=_;rw[aw e,m i e (l.1 (h a aI))];exact h i o
 ·intro h;have b:z (T.a ad)=aS (λk=>eR T a ad k*z ((T.X a ad).a k)) P.n:=by
   have:=h a aI;have:z (if a=a then T.a ad else T.rows a)=aS (λk=>(if a=a then eR T a ad k else _)*z ((T.X a ad).a k)) P.n:=this;simp only[if_true]at this;exact this
  intro i c;by_cases e:i=a
  ·grind
  ·have:=h i c;rw[m i e b]at this;have:z (if i=a then T.a ad else T.rows i)=_:=this;grind
theorem Inv.X(h:Inv P T){a ad:Nat}(aI:a<P.m)(b:ad<P.n)(c:T.M a ad≠0):Inv P (T.X a ad):=
 ⟨h.B.X aI b,λz=>(h.ep z).trans (ye.X h.B aI b c z),h.val,λf=>by
  rw[<-h.sum f,pk b,pk (f:=λk=>f (T.a k)) b,pk aI,pk (f:=λi=>f (T.rows i)) aI];have b:aS (λk=>if k=ad then 0 else f ((T.X a ad).a k)) P.n=aS (λk=>if k=ad then 0 else f (T.a k)) P.n:=c9 λk _=>by
   by_cases e:k=ad
   ·simp[e]
   ·simp only[e,if_false];show f (if k=ad then _ else _)=_;rw[aw e]
  have c:aS (λi=>if i=a then 0 else f ((T.X a ad).rows i)) P.m=aS (λi=>if i=a then 0 else f (T.rows i)) P.m:=c9 λk _=>by
   by_cases e:k=a
   ·simp[e]
   ·simp only[e,if_false];show f (if k=a then _ else _)=_;rw[aw e]
  rw[b,c];have b:f ((T.X a ad).a ad)=f (T.rows a):=by show f (if ad=ad then _ else _)=_;rw[aL rfl]
  have b:f ((T.X a ad).rows a)=f (T.a ad):=by show f (if a=a then _ else _)=_;rw[aL rfl]
  grind⟩
theorem HK(h:dT P T){ad:Nat}(b:ad<P.n){q:Rat}{i:Nat}(a:i<P.m):∀k,k<=P.m->hb T ad q k (T.rows i)=if i<k then T.v (T.rows i)+T.M i ad*q else T.v (T.rows i)
 | 0,_=>by simp[hb,h.rc i ad a b]
 | k+1,_=>by
   show(if T.rows i=T.rows k then hb T ad q k (T.rows i)+T.M k ad*q else hb T ad q k (T.rows i))=_;rw[HK h b a k (by omega)];by_cases e:i=k
   ·subst e;simp
   ·have:T.rows i≠T.rows k:=λb=>e (h.na i k a (by omega) b);grind
theorem QG(h:dT P T){ad:Nat}(b:ad<P.n){q:Rat}{j:Nat}(a:j<P.n):∀k,k<=P.m->hb T ad q k (T.a j)=if j=ad then T.v (T.a j)+q else T.v (T.a j)
 | 0,_=>by
   show(if T.a j=T.a ad then _ else _)=_;by_cases e:j=ad
   ·simp[e]
   ·rw[aw e,aw λc=>e (h.ci j ad a b c)]
 | k+1,_=>by
   show(if T.a j=T.rows k then hb T ad q k (T.a j)+T.M k ad*q else hb T ad q k (T.a j))=_;rw[aw λe=>h.rc k j (by omega) a e.symm,QG h b a k (by omega)]
theorem HL(h:dT P T){ad:Nat}(b:ad<P.n){q:Rat}{i:Nat}(a:i<P.m):(T.gR P ad q).v (T.rows i)=T.v (T.rows i)+T.M i ad*q:=by
 have:=HK h b (q:=q) a P.m (bc _);rwa [aL a]at this
theorem wN(h:dT P T){ad:Nat}(a:ad<P.n){q:Rat}{j:Nat}(b:j<P.n):(T.gR P ad q).v (T.a j)=if j=ad then T.v (T.a j)+q else T.v (T.a j):=QG h a b P.m (bc _)
theorem Inv.gR(h:Inv P T){ad:Nat}(a:ad<P.n)(q:Rat):Inv P (T.gR P ad q):=by
 refine⟨⟨h.B.r,h.B.c,h.B.na,h.B.ci,h.B.rc,h.B.jQ⟩,h.ep,?_,h.sum⟩;refine(h.ep _).2 λi b=>?_;have c:=(h.ep _).1 h.val i b;rw[HL h.B a b,c,pk a,pk (f:=λk=>T.M i k*(T.gR P ad q).v (T.a k)) a,wN h.B a a,aL rfl];have:aS (λk=>if k=ad then 0 else T.M i k*(T.gR P ad q).v (T.a k)) P.n=aS (λk=>if k=ad then 0 else T.M i k*T.v (T.a k)) P.n:=c9 λk b=>by
  by_cases e:k=ad
  ·simp[e]
  ·simp only[e,if_false,wN h.B a b]
 grind
end
def p8(P:bM)(v:Nat->Rat)(x:Nat):Int:=match P.up x with
 | some u=>if u<v x then -1 else 0
 | none=>0
def off(P:bM)(v:Nat->Rat)(x:Nat):Int:=match P.ah x with
 | some l=>if v x<l then 1 else p8 P v x
 | none=>p8 P v x
def can(P:bM)(v:Nat->Rat)(x:Nat)(aM:Int):Bool:=if 0<aM then(match P.up x with
    | none=>true
    | some u=>decide (v x<u)) else(match P.ah x with
    | none=>true
    | some l=>decide (l<v x))
def lf(P:bM)(v:Nat->Rat)(x:Nat):Prop:=(∀l,P.ah x=some l->l<=v x)/\∀u,P.up x=some u->v x<=u
theorem Rd{P:bM}{v:Nat->Rat}{x:Nat}(h:off P v x=0):lf P v x:=by
 unfold off p8 at h;refine⟨λl a=>?_,λ_ _=>?_⟩
 ·rw[a]at h;simp only at h;by_cases a:v x<l
  ·rw[aL a]at h;omega
  ·exact fy.1 a
 grind
theorem tc{P:bM}{v:Nat->Rat}{x:Nat}(h:off P v x≠0):(off P v x=1/\∃l,P.ah x=some l/\v x<l)∨(off P v x=-1/\∃u,P.up x=some u/\u<v x):=by
 have a:p8 P v x≠0->(p8 P v x=-1/\∃u,P.up x=some u/\u<v x):=by
  unfold p8
  cases a:P.up x with
  | none=>simp
  | some u=>
    simp only;by_cases a:u<v x
    ·simp[a]
    ·simp[a]
 unfold off at h|-;grind
theorem BG{P:bM}{v:Nat->Rat}{x:Nat}{w:Int}(a:0<w)(h:can P v x w=false):∃u,P.up x=some u/\u<=v x:=by
 unfold can at h;grind
theorem BF{P:bM}{v:Nat->Rat}{x:Nat}{w:Int}(a:¬0<w)(h:can P v x w=false):∃l,P.ah x=some l/\v x<=l:=by
 unfold can at h;grind
theorem yK{P:bM}{v:Nat->Rat}{x:Nat}{w:Int}(a:0<w)(h:can P v x w=true):∀u,P.up x=some u->v x<u:=by
 intro u _;unfold can at h;grind
theorem yJ{P:bM}{v:Nat->Rat}{x:Nat}{w:Int}(a:¬0<w)(h:can P v x w=true):∀l,P.ah x=some l->l<v x:=by
 intro _ _;unfold can at h;grind
section
variable{α:Type}(f:α->Option α)
def fH:Nat->α->Option α
 | 0,a=>some a
 | k+1,a=>match f a with
   | none=>none
   | some b=>fH k b
def Ends(a:α):Prop:=∃k,fH f k a=none
variable{f}
theorem Ends.next{a b:α}(h:Ends f a)(e:f a=some b):Ends f b:=by
 obtain⟨k,a⟩:=h
 cases k with
 | zero=>cases a
 | succ k=>
   rw[fH,e]at a;exact⟨k,a⟩
theorem Ends.least{a:α}(h:Ends f a):∃k,fH f k a=none/\∀j,j<k->fH f j a≠none:=by
 obtain⟨k,b⟩:=h;obtain⟨_,_,_,_,_⟩:=Qd (p:=λk=>fH f k a=none) (Nat.zero_le k) b;grind
open Classical in
noncomputable def left(f:α->Option α)(a:α):Nat:=if h:Ends f a then Classical.choose (Ends.least h) else 0
theorem Qe{a b:α}(h:Ends f a)(e:f a=some b):left f b<left f a:=by
 have a:=h.next e;unfold left;rw[dif_pos h,dif_pos a];obtain⟨b,_⟩:=tr h.least;obtain⟨_,_⟩:=tr a.least;generalize Classical.choose h.least=n at*
 generalize Classical.choose a.least=m at*
 cases n with
 | zero=>cases b
 | succ n=>
   rw[fH,e]at b;grind
theorem Sx{a:α}(h:¬Ends f a):∃c:Nat->α,c 0=a/\∀t,f (c t)=some (c (t+1)):=by
 have c:∀(k:Nat) (a:α),fH f (k+1) a=(match fH f k a with | none=>none | some b=>f b):=by
  intro k
  induction k with
  | zero=>intro a;cases e:f a<;>simp[fH,e]
  | succ k ih=>
    intro a;rw[fH]
    cases e:f a with
    | none=>simp only[fH,e]
    | some b=>simp only;rw[ih b];simp only[fH,e]
 have d:∀k,∃b,fH f k a=some b:=λk=>by
  cases e:fH f k a with
  | none=>exact absurd ⟨k,e⟩ h
  | some b=>exact⟨b,rfl⟩
 refine⟨λk=>Classical.choose (d k),?_,λt=>?_⟩
 ·have:=tr (d 0);exact(jH this).symm
 grind
end
def lH(P:bM)(T:bu):Option Nat:=eL (λi=>decide (off P T.v (T.rows i)≠0)) T.rows P.m
def lU(P:bM)(T:bu)(a:Nat)(aM:Int):Option Nat:=eL (λk=>decide (T.M a k≠0)&&can P T.v (T.a k) (aM*cg (T.M a k))) T.a P.n
def goal(P:bM)(x:Nat)(aM:Int):Rat:=if aM<0 then(P.up x).getD 0 else(P.ah x).getD 0
def uu(P:bM)(T:bu)(a ad:Nat):Rat:=(goal P (T.rows a) (off P T.v (T.rows a))-T.v (T.rows a))/T.M a ad
def jy(P:bM)(T:bu)(a ad:Nat):bu:=(T.gR P ad (uu P T a ad)).X a ad
def jx(P:bM)(T:bu):Option bu:=match lH P T with
 | none=>none
 | some a=>(match lU P T a (off P T.v (T.rows a)) with
   | none=>none
   | some b=>some (jy P T a b))
def tS(P:bM)(T:bu):Prop:=∀k,k<P.n->lf P T.v (T.a k)
structure qT(P:bM)(T:bu)(a ad:Nat):Prop where
 aI:a<P.m
 dN:ad<P.n
 off:off P T.v (T.rows a)≠0
 E4:∀i,i<P.m->C.off P T.v (T.rows i)≠0->T.rows a<=T.rows i
 qi:T.M a ad≠0
 can:can P T.v (T.a ad) (C.off P T.v (T.rows a)*cg (T.M a ad))=true
 yN:∀k,k<P.n->T.M a k≠0->C.can P T.v (T.a k) (C.off P T.v (T.rows a)*cg (T.M a k))=true->T.a ad<=T.a k
theorem OV{P:bM}{T c:bu}(h:jx P T=some c):∃a ad,qT P T a ad/\c=jy P T a ad:=by
 unfold jx at h;split at h
 ·cases h
 ·rename_i a g;split at h
  ·cases h
  ·rename_i ad i;obtain⟨j,d,e⟩:=j' g;obtain⟨k,b,f⟩:=j' i;simp only[bK,cP]at d e b f;exact⟨a,ad,⟨j,k,d,e,b.1,b.2,λl m n o=>f l m ⟨n,o⟩⟩,(jH h).symm⟩
section
variable{P:bM}
theorem jg{q:Rat}(h:q≠0):(0<q/\cg q=1)∨(q<0/\cg q=-1):=by
 unfold cg;grind
theorem WX{x:Nat}{v w:Nat->Rat}{M:Rat}{aM:Int}(h:M≠0)(i:aM=1∨aM=-1)(c:can P v x (aM*cg M)=false)(d:lf P w x):(aM:Rat)*(M*(w x-v x))<=0:=by
 have f:∀u,P.up x=some u->u<=v x->w x-v x<=0:=λu a b=>by have:=d.2 u a;grind
 have g:∀l,P.ah x=some l->v x<=l->0<=w x-v x:=λu a b=>by have:=d.1 u a;grind
 rcases jg h with⟨aP,e⟩ | ⟨aP,e⟩<;>rcases i with rfl | rfl<;>rw[e]at c
 ·obtain⟨u,a,b⟩:=BG (by decide) c;have:=f u a b;have:0<=M*(v x-w x):=fW (iJ aP) (by grind);simp;grind
 ·obtain⟨u,a,b⟩:=BF (by decide) c;have:=g u a b;have:0<=M*(w x-v x):=fW (iJ aP) this;simp;grind
 ·obtain⟨u,a,b⟩:=BF (by decide) c;have:=g u a b;have:0<=(-M)*(w x-v x):=fW (by grind) this;simp;grind
 ·obtain⟨u,a,b⟩:=BG (by decide) c;have:=f u a b;have:0<=(-M)*(v x-w x):=fW (by grind) (by grind);simp;grind
theorem Yu{x:Nat}{v w:Nat->Rat}{M:Rat}{aM:Int}(b:M≠0)(c:aM=1∨aM=-1)(f:off P w x≠0)(a:v x=goal P x (off P w x))(d:can P v x (aM*cg M)=true):(aM:Rat)*(M*(w x-v x))<=0:=by
 unfold goal at a
 rcases tc f with⟨fr,l,aY,b7⟩ | ⟨fr,u,hu,b7⟩
 ·rw[fr,aw (by decide),aY]at a;simp only[je]at a;have f:w x-v x<0:=by grind
  have f:¬(aM*cg M=-1):=λh=>by
   have:=yJ (by rw[h];decide) d l aY;grind
  rcases jg b with⟨aP,e⟩ | ⟨aP,e⟩<;>rcases c with rfl | rfl
  ·have:0<=M*(v x-w x):=fW (iJ aP) (by grind);simp;grind
  ·grind
  ·grind
  ·have:0<=(-M)*(v x-w x):=fW (by grind) (by grind);simp;grind
 ·rw[fr,aL (by decide),hu]at a;simp only[je]at a;have a:0<w x-v x:=by grind
  have g:¬(aM*cg M=1):=λh=>by
   have:=yK (by rw[h];decide) d u hu;grind
  rcases jg b with⟨aP,e⟩ | ⟨aP,e⟩<;>rcases c with rfl | rfl
  ·exact absurd (by rw[e];rfl) g
  ·have:0<=M*(w x-v x):=fW (iJ aP) (by grind);simp;grind
  ·have:0<=(-M)*(w x-v x):=fW (by grind) (by grind);simp;grind
  grind
theorem uP{v:Nat->Rat}{x:Nat}(h:off P v x≠0):off P v x=1∨off P v x=-1:=(tc h).imp (·.1) (·.1)
theorem acA{x:Nat}{v w:Nat->Rat}(b:off P v x≠0)(a:lf P w x):0<(off P v x:Rat)*(w x-v x):=by
 rcases tc b with⟨fr,l,aY,b7⟩ | ⟨fr,u,hu,b7⟩
 ·rw[fr];have:=a.1 l aY;simp;grind
 ·rw[fr];have:=a.2 u hu;simp;grind
def ya(P:bM):Prop:=∀x l u,P.ah x=some l->P.up x=some u->l<=u
theorem WU(b:ya P){v w:Nat->Rat}{x:Nat}(c:off P v x≠0)(a:w x=goal P x (off P v x)):lf P w x:=by
 unfold goal at a
 rcases tc c with⟨fr,l,aY,b7⟩ | ⟨fr,u,hu,b7⟩
 ·rw[fr,aw (by decide),aY]at a;simp only[je]at a;refine⟨λ_ h=>?_,λu h=>?_⟩
  ·grind
  ·rw[a];exact b x l u aY h
 ·rw[fr,aL (by decide),hu]at a;simp only[je]at a;refine⟨λl h=>?_,λ_ h=>?_⟩
  ·rw[a];exact b x l u h hu
  grind
theorem GM{T:bu}(h:Inv P T){a ad:Nat}(g:qT P T a ad):(jy P T a ad).v (T.rows a)=goal P (T.rows a) (off P T.v (T.rows a)):=by
 show(T.gR P ad _).v (T.rows a)=_;rw[HL h.B g.dN g.aI,uu];have:=g.qi;grind
theorem OW{T:bu}(h:Inv P T){a ad:Nat}(g:qT P T a ad):Inv P (jy P T a ad):=(h.gR g.dN _).X g.aI g.dN g.qi
theorem OX(c:ya P){T:bu}(h:Inv P T)(d:tS P T){a ad:Nat}(g:qT P T a ad):tS P (jy P T a ad):=by
 intro k b;show lf P (jy P T a ad).v (if k=ad then T.rows a else T.a k);by_cases e:k=ad
 ·rw[aL e];exact WU c g.off (GM h g)
 ·rw[aw e];have:(jy P T a ad).v (T.a k)=T.v (T.a k):=by
   show(T.gR P ad _).v (T.a k)=_;rw[wN h.B g.dN b,aw e]
  obtain⟨_,_⟩:=d k b;exact⟨λl a=>by grind,λl a=>by grind⟩
structure EO(P:bM)(st:Nat->bu)(a c:Nat->Nat)(L:Nat):Prop where
 go:∀t,t<L->qT P (st t) (a t) (c t)
 jB:∀t,t<L->st (t+1)=jy P (st t) (a t) (c t)
 inv:∀t,t<=L->Inv P (st t)
 Y2:∀t,t<=L->tS P (st t)
def ef(P:bM)(T:bu)(x:Nat):Prop:=∃i,i<P.m/\T.rows i=x
theorem yq{T:bu}(h:dT P T){a ad:Nat}(aI:a<P.m)(_:ad<P.n)(x:Nat):ef P (T.X a ad) x↔(x=T.a ad∨(ef P T x/\x≠T.rows a)):=by
 constructor
 ·rintro⟨i,b,e⟩;have e:(if i=a then T.a ad else T.rows i)=x:=e;by_cases c:i=a
  ·grind
  ·rw[aw c]at e;exact .inr ⟨⟨i,b,e⟩,λd=>c (h.na i a b aI (e.trans d))⟩
 ·rintro(rfl | ⟨⟨i,b,rfl⟩,_⟩)
  ·exact⟨a,aI,by show(if a=a then _ else _)=_;rw[aL rfl]⟩
  ·exact⟨i,b,by show(if i=a then _ else _)=_;grind⟩
theorem QJ{T:bu}(h:dT P T){x:Nat}(a:x<P.n+P.m)(b:¬ef P T x):∃k,k<P.n/\T.a k=x:=(h.jQ x a).resolve_left b
theorem EO.core{b:Nat->bu}{a c:Nat->Nat}{L:Nat}(R:EO P b a c L)(s t r:Nat)(B:s<t)(B:t<L)(aY:(b s).rows (a s)=r)(C:(b t).a (c t)=r)
 (v:∀u,s<=u->u<=t->(b u).rows (a u)<=r/\(b u).a (c u)<=r) (D:∀u,s<u->u<t->(b u).a (c u)≠r):False:=by
 have g:=R.go s (by omega);have l:=R.go t B;have f:=R.inv s (by omega);have o:=R.inv t (by omega);have E:r<P.n+P.m:=by rw[<-aY];exact f.B.r _ g.aI
 have w:∀u,u<L->∀x,x<P.n+P.m->¬ef P (b u) x->x≠(b u).a (c u)->¬ef P (b (u+1)) x/\(b (u+1)).v x=(b u).v x:=by
  intro u r x m s t;have a:=R.go u r;have i:=R.inv u (by omega);obtain⟨k,n,rfl⟩:=QJ i.B m s;rw[R.jB u r];refine⟨λh=>?_,?_⟩
  ·rcases(yq (T:=(b u).gR P (c u) _) ⟨i.B.r,i.B.c,i.B.na,i.B.ci,i.B.rc,i.B.jQ⟩ a.aI a.dN _).1 h with h | ⟨h,_⟩
   ·exact t h
   ·exact s h
  ·show((b u).gR P (c u) _).v _=_;rw[wN i.B a.dN n,aw λe=>t (by rw[e])]
 have F:∀d,s+1+d<=t->¬ef P (b (s+1+d)) r/\(b (s+1+d)).v r=goal P r (off P (b s).v r):=by
  intro d
  induction d with
  | zero=>
    intro _;have e:=R.jB s (by omega);refine⟨λh=>?_,?_⟩
    ·have h:ef P (b (s+1)) r:=h;rw[e]at h;rcases(yq (T:=(b s).gR P (c s) _) ⟨f.B.r,f.B.c,f.B.na,f.B.ci,f.B.rc,f.B.jQ⟩ g.aI g.dN _).1 h with h | ⟨_,h⟩
     ·exact f.B.rc _ _ g.aI g.dN (aY.trans h)
     ·exact h aY.symm
    ·show(b (s+1)).v r=_;rw[e,<-aY];exact GM f g
  | succ d ih=>
    intro _;obtain⟨a,c⟩:=ih (by omega);obtain⟨h,t⟩:=w (s+1+d) (by omega) r E a λe=>D _ (by omega) (by omega) e.symm;exact⟨h,t.trans c⟩
 obtain⟨y,z⟩:=F (t-(s+1)) (by omega);rw[show s+1+(t-(s+1))=t by omega]at y z;have G:∀j,r<j->j<P.n+P.m->∀d,s+d<=t->(ef P (b (s+d)) j↔ef P (b s) j)/\(¬ef P (b s) j->(b (s+d)).v j=(b s).v j):=by
  intro j _ u d
  induction d with
  | zero=>exact λ_=>⟨Iff.rfl,λ_=>rfl⟩
  | succ d ih=>
    intro _;obtain⟨r,H⟩:=ih (by omega);obtain⟨_,_⟩:=v (s+d) (by omega) (by omega);have t:=R.go (s+d) (by omega);have i:=R.inv (s+d) (by omega);have e:=R.jB (s+d) (by omega);have I:ef P (b (s+d+1)) j↔ef P (b (s+d)) j:=by
     rw[e];refine(yq (T:=(b (s+d)).gR P (c (s+d)) _) ⟨i.B.r,i.B.c,i.B.na,i.B.ci,i.B.rc,i.B.jQ⟩ t.aI t.dN _).trans ⟨λh=>?_,λh=>.inr ⟨h,?_⟩⟩
     ·rcases h with h | ⟨h,_⟩
      ·have:j=(b (s+d)).a (c (s+d)):=h;omega
      ·exact h
     ·show j≠(b (s+d)).rows (a (s+d));omega
    refine⟨I.trans r,λt=>?_⟩;exact(w (s+d) (by omega) j u (λh=>t (r.1 h)) (by omega)).2.trans (H t)
 have A:∀j,j<r->lf P (b s).v j:=by
  intro j _
  rcases f.B.jQ j (by omega) with⟨i,az,e⟩ | ⟨k,n,e⟩
  ·refine Rd (o3 λp=>?_);have:=g.E4 i az (by rw[e];exact p);omega
  ·rw[<-e];exact R.Y2 s (by omega) k n
 obtain⟨x,m⟩:∃x,x=(b t).rows (a t):=⟨_,rfl⟩;have d:x<r:=by
  have c:=(v t (by omega) (bc _)).1;have c:x≠r:=λe=>y ⟨a t,l.aI,m.symm.trans e⟩;omega
 have q:=uP l.off;rw[<-m]at q;have p:=l.off;rw[<-m]at p;have j:=acA p (A x d);have d:=(o.ep _).1 o.val (a t) l.aI;have j:=(o.ep _).1 f.val (a t) l.aI;rw[<-m]at d j;have f:(off P (b t).v x:Rat)*((b s).v x-(b t).v x)=aS (λk=>(off P (b t).v x:Rat)*((b t).M (a t) k*((b s).v ((b t).a k)-(b t).v ((b t).a k)))) P.n:=by
  rw[fP,d,j,<-abw];congr 1;exact c9 λk _=>by grind
 have d:aS (λk=>(off P (b t).v x:Rat)*((b t).M (a t) k*((b s).v ((b t).a k)-(b t).v ((b t).a k)))) P.n<=0:=by
  have u:aS (λ_=>(0:Rat)) P.n=0:=ng λ_ _=>rfl;rw[<-u];refine Ar λk n=>?_;by_cases h:(b t).M (a t) k=0
  ·rw[h];have:(off P (b t).v x:Rat)*(0*((b s).v ((b t).a k)-(b t).v ((b t).a k)))=0:=by grind
   rw[this];exact kW
  ·have f:=o.B.c k n;by_cases d:(b t).a k=r
   ·have j:k=c t:=o.B.ci _ _ n l.dN (d.trans C.symm);have a:=l.can;rw[<-m,<-j,d]at a;rw[d];exact Yu h q (by rw[<-aY];exact g.off) z a
   ·by_cases g:r<(b t).a k
    ·have j:¬ef P (b t) ((b t).a k):=λ⟨i,az,e⟩=>o.B.rc i k az n e;obtain⟨c,d⟩:=G _ g f (t-s) (by omega);rw[show s+(t-s)=t by omega]at c d;rw[d λd=>j (c.2 d)];have:(off P (b t).v x:Rat)*((b t).M (a t) k*((b s).v ((b t).a k)-(b s).v ((b t).a k)))=0:=by grind
     rw[this];exact kW
    ·refine WX h q ?_ (A _ (by omega));rw[m]
     cases c:can P (b t).v ((b t).a k) (off P (b t).v ((b t).rows (a t))*cg ((b t).M (a t) k)) with
     | false=>rfl
     | true=>
       have:=l.yN k n h c;omega
 grind
theorem Wx(f:ya P){T:bu}(h:Inv P T)(i:tS P T):Ends (jx P) T:=by
 apply o3;intro h;obtain⟨a,_,i⟩:=Sx h;have b:∀t,∃p:Nat×Nat,qT P (a t) p.1 p.2/\a (t+1)=jy P (a t) p.1 p.2:=λt=>by
  obtain⟨g,h,d,e⟩:=OV (i t);exact⟨(g,h),d,e⟩
 have c:∀t,Inv P (a t)/\tS P (a t):=by
  intro t
  induction t with
  | zero=>grind
  | succ t ih=>
    obtain⟨p,g,h⟩:=b t;rw[h];exact⟨OW ih.1 g,OX f ih.1 ih.2 g⟩
 have R:EO P a (λt=>(Classical.choose (b t)).1) (λt=>(Classical.choose (b t)).2) (3^(P.n+P.m)):=
  ⟨λt _=>(tr (b t)).1,λt _=>(tr (b t)).2,λt _=>(c t).1,λt _=>(c t).2⟩
 refine Fg (ef:=λt x=>ef P (a t) x) (gQ:=λt=>(a t).rows ((Classical.choose (b t)).1)) (dq:=λt=>(a t).a ((Classical.choose (b t)).2)) (λt f x=>?_) (λt f=>?_) (λs t r d e b h i j=>R.core s t r d e b h i j) (P.n+P.m) 0 (λu _ _=>?_) (by omega)
 ·have g:=R.go t f;have i:=(c t).1;have b:∀e b d,e=jy P (a t) b d->qT P (a t) b d->(ef P e x↔(x=(a t).a d∨(ef P (a t) x/\x≠(a t).rows b))):=λe b d e g=>by
   rw[e];exact yq (T:=(a t).gR P _ _) ⟨i.B.r,i.B.c,i.B.na,i.B.ci,i.B.rc,i.B.jQ⟩ g.aI g.dN x
  grind
 ·have g:=R.go t f;have k:=(c t).1;exact⟨⟨_,g.aI,rfl⟩,λ⟨j,a,e⟩=>k.B.rc j _ a g.dN e⟩
 ·have g:=R.go u (by omega);have i:=(c u).1;exact⟨i.B.r _ g.aI,i.B.c _ g.dN⟩
end
def gK(P:bM)(c:Nat->Rat)(x:Nat):Rat:=if x<P.n then c x else 0
def red(P:bM)(c:Nat->Rat)(T:bu)(k:Nat):Rat:=gK P c (T.a k)+aS (λi=>gK P c (T.rows i)*T.M i k) P.m
def obj(P:bM)(c:Nat->Rat)(z:Nat->Rat):Rat:=aS (λj=>c j*z j) P.n
def room(P:bM)(v:Nat->Rat)(x:Nat)(aM:Int):Option Rat:=match (if 0<aM then P.up x else none) with
 | some u=>some (u-v x)
 | none=>(match (if aM<0 then P.ah x else none) with
   | some l=>some (v x-l)
   | none=>none)
def dH(q:Rat):Rat:=if q<0 then -q else q
structure hy where
 e4:Option Rat
 ind:Option Nat
 pt:Nat
def hy.add(f:hy)(q:Rat)(i x:Nat):hy:=match f.e4 with
 | none=>⟨some q,some i,x⟩
 | some p=>if q<p∨(q=p/\x<f.pt) then⟨some q,some i,x⟩ else f
def dW(P:bM)(T:bu)(ad:Nat)(aM:Int):Nat->hy
 | 0=>⟨room P T.v (T.a ad) aM,none,T.a ad⟩
 | i+1=>if T.M i ad=0 then dW P T ad aM i else match room P T.v (T.rows i) (aM*cg (T.M i ad)) with
   | none=>dW P T ad aM i
   | some r=>(dW P T ad aM i).add (r/dH (T.M i ad)) i (T.rows i)
def enters(P:bM)(c:Nat->Rat)(T:bu):Option Nat:=eL (λk=>decide (red P c T k≠0)&&can P T.v (T.a k) (-cg (red P c T k))) T.a P.n
def eF(P:bM)(c:Nat->Rat)(T:bu)(ad:Nat):Int:=-cg (red P c T ad)
def jw(P:bM)(T:bu)(ad:Nat)(aM:Int)(q:Rat):Option Nat->bu
 | none=>T.gR P ad (if aM<0 then -q else q)
 | some a=>(T.gR P ad (if aM<0 then -q else q)).X a ad
def h'(P:bM)(c:Nat->Rat)(T:bu):Option bu:=match enters P c T with
 | none=>none
 | some a=>(match (dW P T a (eF P c T a) P.m).e4 with
   | none=>none
   | some q=>some (jw P T a (eF P c T a) q (dW P T a (eF P c T a) P.m).ind))
section
variable{P:bM}{c:Nat->Rat}{T:bu}
theorem zv(h:Inv P T){z:Nat->Rat}(b:vC P z):obj P c z=aS (λk=>red P c T k*z (T.a k)) P.n:=by
 have a:=h.sum λx=>gK P c x*z x;have d:aS (λx=>gK P c x*z x) P.n=obj P c z:=c9 λ_ e=>by simp[gK,e]
 have e:aS (λi=>gK P c (P.n+i)*z (P.n+i)) P.m=0:=ng λi _=>by
  have:¬P.n+i<P.n:=by omega
  simp[gK,this]
 rw[d,e]at a;have d:aS (λi=>gK P c (T.rows i)*z (T.rows i)) P.m=aS (λk=>aS (λi=>gK P c (T.rows i)*T.M i k) P.m*z (T.a k)) P.n:=by
  have:aS (λi=>gK P c (T.rows i)*z (T.rows i)) P.m=aS (λi=>aS (λk=>gK P c (T.rows i)*T.M i k*z (T.a k)) P.n) P.m:=c9 λi e=>by
   rw[(h.ep z).1 b i e,<-fP];exact c9 λk _=>by grind
  rw[this,Aq];refine c9 λk _=>?_;have:aS (λi=>gK P c (T.rows i)*T.M i k*z (T.a k)) P.m=aS (λi=>z (T.a k)*(gK P c (T.rows i)*T.M i k)) P.m:=c9 λi _=>by grind
  rw[this,fP];grind
 rw[d,<-kr]at a;have a:aS (λk=>gK P c (T.a k)*z (T.a k)+aS (λi=>gK P c (T.rows i)*T.M i k) P.m*z (T.a k)) P.n=aS (λk=>red P c T k*z (T.a k)) P.n:=c9 λk _=>by
  unfold red;grind
 grind
theorem Wg{a b:Rat}(aI:0<=a)(c:0<b):0<=a/b:=by
 apply fy.1;intro _;have d:0<(-(a/b))*b:=Rat.mul_pos (by grind) c;have:a/b*b=a:=by grind
 grind
theorem lg{q:Rat}(h:q≠0):0<dH q:=by
 unfold dH;grind
theorem Ab{v:Nat->Rat}{x:Nat}{r:Rat}(h:room P v x 1=some r):∃u,P.up x=some u/\r=u-v x:=by
 unfold room at h;grind
theorem Aa{v:Nat->Rat}{x:Nat}{r:Rat}(h:room P v x (-1)=some r):∃l,P.ah x=some l/\r=v x-l:=by
 unfold room at h;grind
theorem Dw{v:Nat->Rat}{x:Nat}{u:Rat}(h:P.up x=some u):room P v x 1=some (u-v x):=by
 unfold room;simp[h]
theorem Dv{v:Nat->Rat}{x:Nat}{l:Rat}(h:P.ah x=some l):room P v x (-1)=some (v x-l):=by
 unfold room;simp[h]
theorem Sf{v:Nat->Rat}{x:Nat}{w:Int}(b:w=1∨w=-1)(a:lf P v x){r:Rat}(h:room P v x w=some r):0<=r:=by
 rcases b with rfl | rfl
 ·obtain⟨u,c,rfl⟩:=Ab h;have:=a.2 u c;grind
 ·obtain⟨u,c,rfl⟩:=Aa h;have:=a.1 u c;grind
structure A6(P:bM)(T:bu)(ad:Nat)(aM:Int)(k:Nat)(f:hy):Prop where
 zq:f.e4=none->room P T.v (T.a ad) aM=none/\∀i,i<k->T.M i ad≠0->room P T.v (T.rows i) (aM*cg (T.M i ad))=none
 own:f.ind=none->f.e4=room P T.v (T.a ad) aM/\f.pt=T.a ad
 row:∀a,f.ind=some a->a<k/\T.M a ad≠0/\f.pt=T.rows a/\∃r,room P T.v (T.rows a) (aM*cg (T.M a ad))=some r/\f.e4=some (r/dH (T.M a ad))
 CA:∀q,f.e4=some q->∀r,room P T.v (T.a ad) aM=some r->q<=r/\(q=r->f.pt<=T.a ad)
 min:∀q,f.e4=some q->∀i,i<k->T.M i ad≠0->∀r,room P T.v (T.rows i) (aM*cg (T.M i ad))=some r->q<=r/dH (T.M i ad)/\(q=r/dH (T.M i ad)->f.pt<=T.rows i)
theorem Ct(P:bM)(T:bu)(ad:Nat)(aM:Int):∀k,A6 P T ad aM k (dW P T ad aM k)
 | 0=>by
   refine⟨λh=>⟨h,λi a=>absurd a (gS _)⟩,λ_=>⟨rfl,rfl⟩,λ_ h=>(by cases h),λq h _ b=>?_,λq h i a=>absurd a (gS _)⟩;have h:room P T.v (T.a ad) aM=some q:=h;rw[h]at b;cases b;exact⟨kW,λ_=>bc _⟩
 | k+1=>by
   have ih:=Ct P T ad aM k;generalize m:dW P T ad aM k=f at ih;have o:(∀r,T.M k ad≠0->room P T.v (T.rows k) (aM*cg (T.M k ad))=some r->∃q,f.e4=some q/\q<=r/dH (T.M k ad)/\(q=r/dH (T.M k ad)->f.pt<=T.rows k))->A6 P T ad aM (k+1) f:=λ_=>by
    refine⟨λh=>⟨(ih.zq h).1,λi c b=>?_⟩,ih.own,λd e=>?_,ih.CA,λq g i c b r a=>?_⟩
    ·by_cases j:i=k
     ·subst j
      cases a:room P T.v (T.rows i) (aM*cg (T.M i ad)) with
      | none=>rfl
      | some r=>
        grind
     ·exact(ih.zq h).2 i (by omega) b
    ·obtain⟨_,_⟩:=ih.row d e;grind
    ·by_cases e:i=k
     ·grind
     ·exact ih.min q g i (by omega) b r a
   rw[dW,m];by_cases b:T.M k ad=0
   ·grind
   ·rw[aw b]
    cases g:room P T.v (T.rows k) (aM*cg (T.M k ad)) with
    | none=>grind
    | some r=>
      obtain⟨q,c⟩:∃q,q=r/dH (T.M k ad):=⟨_,rfl⟩;simp only[<-c];have o:(∀p,f.e4=some p->q<p∨(q=p/\T.rows k<f.pt))->A6 P T ad aM (k+1) ⟨some q,some k,T.rows k⟩:=λj=>by
       refine⟨λh=>(by cases h),λh=>(by cases h),λ_ n=>?_,λo h d a=>?_,λo h i _ l d a=>?_⟩
       ·cases n;exact⟨by omega,b,rfl,r,g,by rw[c]⟩
       ·cases h
        cases e:f.e4 with
        | none=>rw[(ih.zq e).1]at a;cases a
        | some p=>
          obtain⟨_,s⟩:=ih.CA p e d a
          rcases j p e with b | ⟨b,_⟩
          ·exact⟨by grind,λ_=>by grind⟩
          ·exact⟨by grind,λ_=>by have:=s (by grind);show T.rows k<=_;omega⟩
       ·cases h;by_cases s:i=k
        ·subst s;rw[g]at a;cases a;rw[<-c];exact⟨kW,λ_=>bc _⟩
        ·cases e:f.e4 with
         | none=>rw[(ih.zq e).2 i (by omega) l]at a;cases a
         | some p=>
           obtain⟨_,t⟩:=ih.min p e i (by omega) l d a
           rcases j p e with a | ⟨a,_⟩
           ·exact⟨by grind,λ_=>by grind⟩
           ·exact⟨by grind,λ_=>by have:=t (by grind);show T.rows k<=_;omega⟩
      unfold hy.add;grind
structure ix(P:bM)(c:Nat->Rat)(T:bu)(ad:Nat)(aM:Int)(f:hy)(q:Rat):Prop where
 dN:ad<P.n
 d:red P c T ad≠0
 tM:aM=-cg (red P c T ad)
 can:can P T.v (T.a ad) aM=true
 yN:∀k,k<P.n->red P c T k≠0->C.can P T.v (T.a k) (-cg (red P c T k))=true->T.a ad<=T.a k
 Q:A6 P T ad aM P.m f
 e4:f.e4=some q
theorem Ot{b:bu}(h:h' P c T=some b):∃ad aM f q,ix P c T ad aM f q/\b=jw P T ad aM q f.ind:=by
 unfold h' at h;split at h
 ·cases h
 ·rename_i ad d;split at h
  ·cases h
  ·rename_i q e;obtain⟨f,a,c⟩:=j' d;simp only[bK,cP]at a c;exact⟨ad,_,_,q,⟨f,a.1,rfl,a.2,λk g i j=>c k g ⟨i,j⟩,Ct P T ad _ P.m,e⟩,(jH h).symm⟩
def oa(P:bM)(T:bu):Prop:=∀x,x<P.n+P.m->lf P T.v x
theorem ix.iP{ad:Nat}{aM:Int}{f:hy}{q:Rat}(g:ix P c T ad aM f q):aM=1∨aM=-1:=by
 rw[g.tM]
 rcases jg g.d with⟨_,e⟩ | ⟨_,e⟩<;>rw[e]<;>simp
theorem xG{aM:Int}(a:aM=1∨aM=-1){M:Rat}(b:M≠0):(aM*cg M=1/\(aM:Rat)*M=dH M)∨(aM*cg M=-1/\(aM:Rat)*M=-dH M):=by
 unfold dH
 rcases jg b with⟨aP,e⟩ | ⟨aP,e⟩<;>rcases a with rfl | rfl<;>rw[e]
 ·left;rw[aw (by grind)];refine⟨by decide,?_⟩;simp;try grind
 ·right;rw[aw (by grind)];refine⟨by decide,?_⟩;simp;try grind
 ·right;rw[aL aP];refine⟨by decide,?_⟩;simp;try grind
 grind
theorem DK{aM:Int}(a:aM=1∨aM=-1){M:Rat}(b:M≠0):aM*cg M=1∨aM*cg M=-1:=(xG a b).imp (·.1) (·.1)
theorem TF{aM:Int}(a:aM=1∨aM=-1)(q:Rat):(if aM<0 then -q else q)=(aM:Rat)*q:=by
 rcases a with rfl | rfl
 ·simp
 ·simp;grind
theorem ix.IW(a:oa P T)(h:dT P T){ad:Nat}{aM:Int}{f:hy}{q:Rat}(g:ix P c T ad aM f q):0<=q:=by
 cases b:f.ind with
 | none=>
   have:=(g.Q.own b).1;rw[g.e4]at this;exact Sf g.iP (a _ (h.c _ g.dN)) this.symm
 | some e=>
   obtain⟨f,c,_,_,i,d⟩:=g.Q.row e b;rw[g.e4]at d;cases d;have:=Sf (DK g.iP c) (a _ (h.r _ f)) i;exact Wg this (lg c)
theorem ix.Aw(h:dT P T){ad:Nat}{aM:Int}{f:hy}{q:Rat}(g:ix P c T ad aM f q){k:Nat}(av:k<P.n):(jw P T ad aM q f.ind).v (T.a k)=if k=ad then T.v (T.a k)+(aM:Rat)*q else T.v (T.a k):=by
 have:(jw P T ad aM q f.ind).v=(T.gR P ad (if aM<0 then -q else q)).v:=by cases f.ind<;>rfl
 rw[this,wN h g.dN av,TF g.iP]
theorem ix.TE(h:dT P T){ad:Nat}{aM:Int}{f:hy}{q:Rat}(g:ix P c T ad aM f q){i:Nat}(a:i<P.m):(jw P T ad aM q f.ind).v (T.rows i)=T.v (T.rows i)+(aM:Rat)*T.M i ad*q:=by
 have:(jw P T ad aM q f.ind).v=(T.gR P ad (if aM<0 then -q else q)).v:=by cases f.ind<;>rfl
 rw[this,HL h g.dN a,TF g.iP];grind
theorem ix.inv(h:Inv P T){ad:Nat}{aM:Int}{f:hy}{q:Rat}(g:ix P c T ad aM f q):Inv P (jw P T ad aM q f.ind):=by
 cases a:f.ind with
 | none=>exact h.gR g.dN _
 | some b=>
   obtain⟨c,d,_⟩:=g.Q.row b a;exact(h.gR g.dN _).X c g.dN d
theorem ix.GL(h:Inv P T)(b:oa P T){ad:Nat}{aM:Int}{f:hy}{q:Rat}(g:ix P c T ad aM f q):oa P (jw P T ad aM q f.ind):=by
 have f:=g.IW b h.B;intro x j
 rcases h.B.jQ x j with⟨i,az,rfl⟩ | ⟨k,av,rfl⟩
 ·have c:=b _ (h.B.r i az);unfold lf;rw[g.TE h.B az];by_cases a:T.M i ad=0
  ·rw[a];have:T.v (T.rows i)+(aM:Rat)*0*q=T.v (T.rows i):=by grind
   rw[this];exact c
  ·have d:=lg a;have e:0<=dH (T.M i ad)*q:=fW (iJ d) f
   rcases xG g.iP a with⟨fr,cA⟩ | ⟨fr,cA⟩<;>rw[cA]
   ·refine⟨λl e=>by have:=c.1 l e;grind,λu e=>?_⟩;have f:=Dw (v:=T.v) e;have:=(g.Q.min q g.e4 i az a _ (by rw[fr];exact f)).1;have:dH (T.M i ad)*q<=dH (T.M i ad)*((u-T.v (T.rows i))/dH (T.M i ad)):=xm this (iJ d);have e:dH (T.M i ad)*((u-T.v (T.rows i))/dH (T.M i ad))=u-T.v (T.rows i):=by
     have:dH (T.M i ad)≠0:=by grind
     grind
    grind
   ·refine⟨λl e=>?_,λu f=>by have:=c.2 u f;grind⟩;have c:=Dv (v:=T.v) e;have:=(g.Q.min q g.e4 i az a _ (by rw[fr];exact c)).1;have:dH (T.M i ad)*q<=dH (T.M i ad)*((T.v (T.rows i)-l)/dH (T.M i ad)):=xm this (iJ d);have e:dH (T.M i ad)*((T.v (T.rows i)-l)/dH (T.M i ad))=T.v (T.rows i)-l:=by
     have:dH (T.M i ad)≠0:=by grind
     grind
    grind
 ·have a:=b _ (h.B.c k av);unfold lf;rw[g.Aw h.B av];by_cases e:k=ad
  ·subst e;simp only[if_true]
   rcases g.iP with rfl | rfl
   ·refine⟨λl b=>by have:=a.1 l b;simp;grind,λ_ b=>?_⟩;have:=(g.Q.CA q g.e4 _ (Dw b)).1;simp;grind
   ·refine⟨λ_ b=>?_,λu c=>by have:=a.2 u c;simp;grind⟩;have:=(g.Q.CA q g.e4 _ (Dv b)).1;simp;grind
  ·simp only[e,if_false];exact a
theorem ix.obj(h:Inv P T){ad:Nat}{aM:Int}{f:hy}{q:Rat}(g:ix P c T ad aM f q):C.obj P c (jw P T ad aM q f.ind).v=C.obj P c T.v-dH (red P c T ad)*q:=by
 rw[zv h (g.inv h).val,zv h h.val,pk g.dN,pk (f:=λk=>red P c T k*T.v (T.a k)) g.dN,g.Aw h.B g.dN,aL rfl];have e:aS (λk=>if k=ad then 0 else red P c T k*(jw P T ad aM q f.ind).v (T.a k)) P.n=aS (λk=>if k=ad then 0 else red P c T k*T.v (T.a k)) P.n:=c9 λk a=>by
  by_cases e:k=ad
  ·simp[e]
  ·simp only[e,if_false,g.Aw h.B a]
 rw[e];have:red P c T ad*(aM:Rat)=-dH (red P c T ad):=by
  rw[g.tM];unfold dH
  rcases jg g.d with⟨aP,e⟩ | ⟨aP,e⟩<;>rw[e]
  ·grind
  ·grind
 grind
end
section
variable{P:bM}{c:Nat->Rat}
structure vv(P:bM)(c:Nat->Rat)(T:bu)(a ad:Nat)(aM:Int):Prop where
 aI:a<P.m
 dN:ad<P.n
 qi:T.M a ad≠0
 d:red P c T ad≠0
 tM:aM=-cg (red P c T ad)
 can:can P T.v (T.a ad) aM=true
 yN:∀k,k<P.n->red P c T k≠0->C.can P T.v (T.a k) (-cg (red P c T k))=true->T.a ad<=T.a k
 zero:room P T.v (T.rows a) (aM*cg (T.M a ad))=some 0
 E4:∀i,i<P.m->T.M i ad≠0->room P T.v (T.rows i) (aM*cg (T.M i ad))=some 0->T.rows a<=T.rows i
theorem vv.iP{T:bu}{a ad:Nat}{aM:Int}(g:vv P c T a ad aM):aM=1∨aM=-1:=by
 rw[g.tM]
 rcases jg g.d with⟨_,e⟩ | ⟨_,e⟩<;>rw[e]<;>simp
theorem ix.V9{T:bu}{ad:Nat}{aM:Int}{f:hy}(g:ix P c T ad aM f 0):∃a,f.ind=some a/\vv P c T a ad aM:=by
 cases b:f.ind with
 | none=>
   exfalso;have h:=(g.Q.own b).1;rw[g.e4]at h;have a:=g.can
   rcases g.iP with rfl | rfl
   ·obtain⟨u,c,_⟩:=Ab h.symm;have:=yK (by decide) a u c;grind
   ·obtain⟨u,c,_⟩:=Aa h.symm;have:=yJ (by decide) a u c;grind
 | some a=>
   obtain⟨e,c,_,r,f,d⟩:=g.Q.row a b;rw[g.e4]at d;have i:=lg c;have h:r=0:=by
    have:(0:Rat)=r/dH (T.M a ad):=jH d;have d:dH (T.M a ad)≠0:=by grind
    grind
   refine⟨a,rfl,e,g.dN,c,g.d,g.tM,g.can,g.yN,by rw[f,h],λi d c h=>?_⟩;have e:=(g.Q.min 0 g.e4 i d c 0 h).2 (by
    have:=lg c;have:dH (T.M i ad)≠0:=by grind
    grind)
   grind
theorem Sh{v:Nat->Rat}{x:Nat}{w:Int}(a:w=1∨w=-1)(h:room P v x w=some 0):(w=1/\P.up x=some (v x))∨(w=-1/\P.ah x=some (v x)):=by
 rcases a with rfl | rfl
 ·obtain⟨_,_,_⟩:=Ab h;grind
 ·obtain⟨_,_,_⟩:=Aa h;grind
def iH(P:bM)(T:bu)(ad:Nat)(aM:Int)(x:Nat):Rat:=if x=T.a ad then(aM:Rat) else aS (λi=>if T.rows i=x then T.M i ad*(aM:Rat) else 0) P.m
theorem pT{T:bu}(h:dT P T){ad:Nat}{aM:Int}(a:ad<P.n){k:Nat}(av:k<P.n):iH P T ad aM (T.a k)=if k=ad then(aM:Rat) else 0:=by
 unfold iH;by_cases e:k=ad
 ·subst e;simp
 ·have:T.a k≠T.a ad:=λb=>e (h.ci k ad av a b);rw[aw this,aw e,ng λi a=>by rw[aw (h.rc i k a av)]]
theorem wb{T:bu}(h:dT P T){ad:Nat}{aM:Int}(b:ad<P.n){i:Nat}(a:i<P.m):iH P T ad aM (T.rows i)=T.M i ad*(aM:Rat):=by
 unfold iH;rw[aw (h.rc i ad a b),nf (j:=i) a λj b c=>by rw[aw λe=>c (h.na j i b a e)],aL rfl]
theorem Gz{T:bu}(h:Inv P T){ad:Nat}{aM:Int}(a:ad<P.n):vC P (iH P T ad aM):=(h.ep _).2 λ_ b=>by
 rw[wb h.B a b,nf (j:=ad) a λ_ b c=>by rw[pT h.B a b,aw c,mX],pT h.B a a,aL rfl]
theorem Ou{T:bu}(h:Inv P T){ad:Nat}{aM:Int}(a:ad<P.n):obj P c (iH P T ad aM)=red P c T ad*(aM:Rat):=by
 rw[zv h (Gz h a),nf (j:=ad) a λ_ b c=>by rw[pT h.B a b,aw c,mX],pT h.B a a,aL rfl]
structure EP(P:bM)(c:Nat->Rat)(st:Nat->bu)(a eD:Nat->Nat)(w:Nat->Int)(L:Nat)(v:Nat->Rat):Prop where
 go:∀t,t<L->vv P c (st t) (a t) (eD t) (w t)
 jB:∀t,t<L->(st (t+1)).rows=((st t).X (a t) (eD t)).rows
 inv:∀t,t<=L->Inv P (st t)
 GL:∀x,x<P.n+P.m->lf P v x
 val:∀t,t<=L->∀x,x<P.n+P.m->(st t).v x=v x
theorem BE{v w:Nat->Rat}{x:Nat}{s:Int}(h:v x=w x):can P v x s=can P w x s:=by simp only[can,h]
theorem aaK{v w:Nat->Rat}{x:Nat}{s:Int}(h:v x=w x):room P v x s=room P w x s:=by simp only[room,h]
theorem No{T:bu}(h:dT P T){a ad:Nat}(aI:a<P.m)(c:ad<P.n){b:bu}(e:b.rows=(T.X a ad).rows)(x:Nat):ef P b x↔(x=T.a ad∨(ef P T x/\x≠T.rows a)):=by
 rw[<-yq h aI c x];unfold ef;rw[e]
theorem EP.core{b:Nat->bu}{a g:Nat->Nat}{w:Nat->Int}{L:Nat}{v:Nat->Rat}(R:EP P c b a g w L v)(s t r:Nat)(M:s<t)(M:t<L)(aY:(b s).rows (a s)=r)(q:(b t).a (g t)=r)
 (G:∀u,s<=u->u<=t->(b u).rows (a u)<=r/\(b u).a (g u)<=r):False:=by
 have d:=R.go s (by omega);have l:=R.go t M;have h:=R.inv s (by omega);have x:=R.inv t (by omega);have y:=d.iP;have N:∀j,r<j->∀i,s+i<=t->(ef P (b (s+i)) j↔ef P (b s) j):=by
  intro j _ i
  induction i with
  | zero=>grind
  | succ i ih=>
    intro _;obtain⟨_,_⟩:=G (s+i) (by omega) (by omega);have a:=R.go (s+i) (by omega);have c:=R.inv (s+i) (by omega);refine((No c.B a.aI a.dN (R.jB (s+i) (by omega)) j).trans ⟨λa=>?_,λa=>.inr ⟨a,by omega⟩⟩).trans (ih (by omega));grind
 obtain⟨W,m⟩:∃W,W=iH P (b s) (g s) (w s):=⟨_,rfl⟩;have O:vC P W:=m▸Gz h d.dN;have H:obj P c W<0:=by
  rw[m,Ou h d.dN,d.tM]
  rcases jg d.d with⟨aP,e⟩ | ⟨aP,e⟩<;>rw[e]
  ·simp;grind
  ·simp;grind
 rw[zv x O]at H;have i:(b s).a (g s)<r:=by
  have:=(G s (bc _) (by omega)).2;have a:(b s).a (g s)≠r:=λe=>h.B.rc _ _ d.aI d.dN (aY.trans e.symm);omega
 have C:=R.val s (by omega);have D:=R.val t (by omega);have E:r<P.n+P.m:=by rw[<-aY];exact h.B.r _ d.aI
 have I:W r=(b s).M (a s) (g s)*(w s:Rat):=by rw[m,<-aY];exact wb h.B d.dN d.aI
 have J:=xG y d.qi;have n:=Sh (DK y d.qi) d.zero;rw[aY,C r E]at n;refine absurd (abv (f:=λk=>red P c (b t) k*W ((b t).a k)) l.dN (λk A=>?_) ?_) (fy.2 (iJ H))
 ·have f:=x.B.c k A;by_cases F:red P c (b t) k=0
  ·simp_all
  by_cases i:r<(b t).a k
  ·have c:¬ef P (b t) ((b t).a k):=λ⟨o,u,e⟩=>x.B.rc o k u A e;have a:=N _ i (t-s) (by omega);rw[show s+(t-s)=t by omega]at a;obtain⟨K,B,i⟩:=QJ h.B f λp=>c (a.2 p);have:W ((b t).a k)=0:=by
    rw[m,<-i,pT h.B d.dN B,aw];rintro rfl;omega
   simp_all
  ·by_cases i:(b t).a k=r
   ·have v:k=g t:=x.B.ci _ _ A l.dN (i.trans q.symm);have p:=l.can;rw[q,l.tM,<-v]at p;rw[BE (D r E)]at p;show 0<=red P c (b t) k*W ((b t).a k);rw[i,I,nY ((b s).M (a s) (g s))]
    rcases jg F with⟨aP,e⟩ | ⟨aP,e⟩<;>rw[e]at p<;>rcases J with⟨s1,s2⟩ | ⟨s1,s2⟩<;>rw[s1]at n
    ·have:=fW (iJ aP) (iJ (lg d.qi));grind
    ·rcases n with⟨z,_⟩ | ⟨_,z⟩
     ·cases z
     ·have:=yJ (by decide) p _ z;grind
    ·rcases n with⟨_,z⟩ | ⟨z,_⟩
     ·have:=yK (by decide) p _ z;grind
     ·cases z
    ·have a:0<=-red P c (b t) k:=by grind
     have:=fW a (iJ (lg d.qi));rw[s2];grind
   ·have Q:(b t).a k<r:=by omega
    have a:can P (b t).v ((b t).a k) (-cg (red P c (b t) k))=false:=by
     cases e:can P (b t).v ((b t).a k) (-cg (red P c (b t) k)) with
     | false=>rfl
     | true=>have:=l.yN k A F e;omega
    rw[BE (D _ f)]at a;obtain⟨j,p⟩:∃j,j=(b t).a k:=⟨_,rfl⟩;rw[<-p]at a Q f;show 0<=red P c (b t) k*W ((b t).a k);rw[<-p];have r:∀(σ:Int),(σ=1∨σ=-1)->room P v j σ=some 0->(σ:Rat)*W j<=0:=by
     intro σ t v
     rcases h.B.jQ j f with⟨o,u,GF⟩ | ⟨K,B,GG⟩
     ·have P:W j=(b s).M o (g s)*(w s:Rat):=by rw[m,<-GF];exact wb h.B d.dN u
      by_cases c:(b s).M o (g s)=0
      ·simp_all
      ·have z:w s*cg ((b s).M o (g s))≠σ:=λe=>by
        have:=d.E4 o u c (by rw[GF,e,aaK (C j f)];exact v);rw[aY,GF]at this;omega
       have e:=lg c;rw[P]
       rcases xG y c with⟨s1,s2⟩ | ⟨s1,s2⟩<;>rw[s1]at z<;>rcases t with rfl | rfl
       ·exact absurd rfl z
       ·simp;grind
       ·simp;grind
       grind
     ·by_cases e:K=g s
      ·have i:W j=(w s:Rat):=by rw[m,<-GG,pT h.B d.dN B,aL e]
       have c:=d.can;rw[<-e,GG,BE (C j f)]at c;have s:=Sh t v;rw[i]
       rcases y with i | i<;>rw[i]at c|-<;>rcases s with⟨rfl,z⟩ | ⟨rfl,z⟩
       ·exact absurd (yK (by decide) c _ z) th
       ·simp;grind
       ·simp;grind
       ·exact absurd (yJ (by decide) c _ z) th
      ·have c:W j=0:=by rw[m,<-GG,pT h.B d.dN B,aw e]
       simp_all
    have L:=R.GL j f
    rcases jg F with⟨aP,e⟩ | ⟨aP,e⟩<;>rw[e]at a
    ·obtain⟨e,c,_⟩:=BF (by decide) a;have f:=L.1 e c;have:=r (-1) (.inr rfl) (by rw[Dv c];congr 1;grind);have c:0<=W j:=by simp at this;grind
     exact fW (iJ aP) c
    ·obtain⟨f,e,_⟩:=BG (by decide) a;have a:=L.2 f e;have:=r 1 (.inl rfl) (by rw[Dw e];congr 1;grind);have a:0<=-W j:=by simp at this;grind
     have e:0<=-red P c (b t) k:=by grind
     have:=fW e a;grind
 ·have f:=l.can;rw[q,l.tM]at f;rw[BE (D r E)]at f;show 0<red P c (b t) (g t)*W ((b t).a (g t));rw[q,I,nY ((b s).M (a s) (g s))]
  rcases jg l.d with⟨aP,e⟩ | ⟨aP,e⟩<;>rw[e]at f<;>rcases J with⟨s1,s2⟩ | ⟨s1,s2⟩<;>rw[s1]at n
  ·have:=Rat.mul_pos aP (lg d.qi);grind
  ·rcases n with⟨z,_⟩ | ⟨_,z⟩
   ·cases z
   ·exact absurd (yJ (by decide) f _ z) th
  ·rcases n with⟨_,z⟩ | ⟨z,_⟩
   ·exact absurd (yK (by decide) f _ z) th
   ·cases z
  ·have a:0 < -red P c (b t) (g t):=by grind
   have:=Rat.mul_pos a (lg d.qi);rw[s2];grind
def bI(B:Nat)(q:Rat):Prop:=q.num.natAbs<=B/\q.den<=B
theorem s6(q:Rat):q*(q.den:Rat)=(q.num:Rat):=by
 have h:=Rat.num_divInt_den q;rw[Rat.divInt_eq_div]at h;have a:(q.den:Rat)≠0:=by
  intro e;have:q.den=0:=by exact_mod_cast e
  exact q.den_nz this
 have e:((q.den:Int):Rat)=(q.den:Rat):=mU _;grind
theorem U9{B:Nat}{p q:Rat}(c:bI B p)(d:bI B q)(h:p<q):1<=(q-p)*((B:Rat)*B):=by
 have e:(0:Rat)<p.den:=by exact_mod_cast p.den_pos
 have a:(0:Rat)<q.den:=by exact_mod_cast q.den_pos
 have f:p*p.den=p.num:=s6 p;have g:q*q.den=q.num:=s6 q;have b:0<(q-p)*((p.den:Rat)*q.den):=Rat.mul_pos (by grind) (Rat.mul_pos e a);have e:(q-p)*((p.den:Rat)*q.den)=((q.num*p.den-p.num*q.den:Int):Rat):=by
  simp only[Rat.intCast_sub,zO,<-f,<-g,mU];grind
 rw[e]at b;have f:0<q.num*p.den-p.num*q.den:=by exact_mod_cast b
 have b:(1:Rat)<=((q.num*p.den-p.num*q.den:Int):Rat):=by exact_mod_cast f
 rw[<-e]at b;have b:(p.den:Rat)<=B:=by exact_mod_cast c.2
 have c:(q.den:Rat)<=B:=by exact_mod_cast d.2
 have d:(p.den:Rat)*q.den<=(B:Rat)*B:=by
  have e:=I4 b (iJ a);have a:(0:Rat)<=B:=by grind
  have b:=xm c a;grind
 have a:=xm d (show(0:Rat)<=q-p by grind);grind
theorem Nr{B:Nat}{p:Rat}(c:bI B p):-(B:Rat)<=p/\p<=B:=by
 have a:(1:Rat)<=p.den:=by exact_mod_cast p.den_pos
 have d:p*p.den=p.num:=s6 p;have b:-(B:Int)<=p.num/\p.num<=B:=by have:=c.1;omega
 have c:-(B:Rat)<=p.num:=by
  have h:((-(B:Int):Int):Rat)<=p.num:=by exact_mod_cast b.1
  rwa [Rat.intCast_neg,mU]at h
 have e:(p.num:Rat)<=B:=by exact_mod_cast b.2
 rw[<-d]at c e;have b:(0:Rat)<=B:=by exact_mod_cast Nat.zero_le B
 constructor
 ·apply fy.1;intro _;have b:p<0:=by grind
  have:=xm a (show(0:Rat)<=-p by grind);grind
 ·apply fy.1;intro _;have b:0<p:=by grind
  have:=xm a (iJ b);grind
theorem QH{T:bu}{ad:Nat}{q:Rat}(a:q=0):∀k x,hb T ad q k x=T.v x
 | 0,x=>by
   show(if x=T.a ad then _ else _)=_;grind
 | k+1,x=>by
   show(if x=T.rows k then hb T ad q k x+T.M k ad*q else hb T ad q k x)=_;rw[QH a k x,a];split<;>grind
theorem Wa(G:bu->Prop)(r:∀T k,G T->h' P c T=some k->G k)(g:∀T,G T->Inv P T/\oa P T){B:Nat}(e:∀T,G T->bI B (obj P c T.v)){T:bu}(s:G T):Ends (h' P c) T:=by
 apply o3;intro l;obtain⟨a,v,m⟩:=Sx l;have b:∀t,G (a t):=by
  intro t
  induction t with
  | zero=>rw[v];exact s
  | succ t ih=>exact r _ _ ih (m t)
 have n:∀t,∃p:Nat×Int×hy×Rat,ix P c (a t) p.1 p.2.1 p.2.2.1 p.2.2.2/\a (t+1)=jw P (a t) p.1 p.2.1 p.2.2.2 p.2.2.1.ind:=λt=>by
  obtain⟨c,f,h,q,i,k⟩:=Ot (m t);exact⟨(c,f,h,q),i,k⟩
 have w:∀t,obj P c (a (t+1)).v<=obj P c (a t).v:=λt=>by
  obtain⟨p,c,h⟩:=n t;obtain⟨f,i⟩:=g _ (b t);rw[h,c.obj f];have:=fW (iJ (lg c.d)) (c.IW i f.B);grind
 have y:∀d t,obj P c (a (t+d)).v<=obj P c (a t).v:=by
  intro d
  induction d with
  | zero=>exact λt=>kW
  | succ d ih=>exact λt=>Rat.le_trans (w (t+d)) (ih t)
 have z:∀t,∃u,t<=u/\obj P c (a (u+1)).v<obj P c (a u).v:=by
  intro t;apply o3;intro r;have A:∀u,t<=u->∃p:Nat×Nat×Int,vv P c (a u) p.1 p.2.1 p.2.2/\(a (u+1)).rows=((a u).X p.1 p.2.1).rows/\∀x,(a (u+1)).v x=(a u).v x:=λu s=>by
   obtain⟨⟨o,q,_,k⟩,c,i⟩:=n u;simp only at c i;obtain⟨m,n⟩:=g _ (b u);have v:=c.IW n m.B;have B:k=0:=by
    apply o3;intro l;apply r;refine⟨u,s,?_⟩;rw[i,c.obj m];have:=Rat.mul_pos (lg c.d) (show 0<k by grind);grind
   subst B;obtain⟨k,l,h⟩:=c.V9;rw[l]at i;refine⟨(k,o,q),h,by rw[i];rfl,λx=>?_⟩;rw[i];show hb (a u) o (if q<0 then -0 else 0) P.m x=_;exact QH (by split<;>grind) _ _
  have f:∀d,∃p:Nat×Nat×Int,vv P c (a (t+d)) p.1 p.2.1 p.2.2/\(a (t+d+1)).rows=((a (t+d)).X p.1 p.2.1).rows/\∀x,(a (t+d+1)).v x=(a (t+d)).v x:=λd=>A (t+d) (by omega);have C:∀d,∀x,(a (t+d)).v x=(a t).v x:=by
   intro d
   induction d with
   | zero=>exact λx=>rfl
   | succ d ih=>exact λx=>((tr (f d)).2.2 x).trans (ih x)
  have R:EP P c (λd=>a (t+d)) (λd=>(Classical.choose (f d)).1) (λd=>(Classical.choose (f d)).2.1) (λd=>(Classical.choose (f d)).2.2) (3^(P.n+P.m)) (a t).v:=
   ⟨λd _=>(tr (f d)).1,λd _=>(tr (f d)).2.1,λd _=>(g _ (b _)).1,(g _ (b t)).2,λd _ x _=>C d x⟩
  refine Fg (ef:=λd x=>ef P (a (t+d)) x) (gQ:=λd=>(a (t+d)).rows ((Classical.choose (f d)).1)) (dq:=λd=>(a (t+d)).a ((Classical.choose (f d)).2.1)) (λd h x=>?_) (λd h=>?_) (λs u r f i k l j _=>R.core s u r f i k l j) (P.n+P.m) 0 (λd _ h=>?_) (by omega)
  ·have c:=R.go d h;exact No (g _ (b _)).1.B c.aI c.dN (R.jB d h) x
  ·have c:=R.go d h;have o:=(g _ (b (t+d))).1;exact⟨⟨_,c.aI,rfl⟩,λ⟨f,h,i⟩=>o.B.rc f _ h c.dN i⟩
  ·have c:=R.go d (by omega);have i:=(g _ (b (t+d))).1;exact⟨i.B.r _ c.aI,i.B.c _ c.dN⟩
 have D:∀K:Nat,∃t,(K:Rat)<=(obj P c (a 0).v-obj P c (a t).v)*((B:Rat)*B):=by
  intro K
  induction K with
  | zero=>exact⟨0,by simp;grind⟩
  | succ K ih=>
    obtain⟨t,h⟩:=ih;obtain⟨u,_,d⟩:=z t;have c:=y (u-t) t;rw[show t+(u-t)=u by omega]at c;have f:=U9 (e _ (b (u+1))) (e _ (b u)) d;have d:(0:Rat)<=(B:Rat)*B:=by
     have e:(0:Rat)<=B:=by exact_mod_cast Nat.zero_le B
     exact fW e e
    have j:=I4 c d;refine⟨u+1,?_⟩;have:((K+1:Nat):Rat)=(K:Rat)+1:=by simp
    rw[this];grind
 obtain⟨t,h⟩:=D (2*B*(B*B)+1);obtain⟨_,_⟩:=Nr (e _ (b 0));obtain⟨_,_⟩:=Nr (e _ (b t));have d:(0:Rat)<=(B:Rat)*B:=by
  have e:(0:Rat)<=B:=by exact_mod_cast Nat.zero_le B
  exact fW e e
 have j:=I4 (show obj P c (a 0).v-obj P c (a t).v<=2*(B:Rat) by grind) d;grind
end
def iv(j l:Nat):Rat:=if j<l then 1 else if l<j then -1 else 0
theorem aa5(j l:Nat):iv l j=-iv j l:=by
 unfold iv;grind
def eI(n:Nat):List (Nat->Rat)->(Nat->Rat)->Rat
 | [],_=>1
 | r::a,w=>aS (λj=>r j*w j*eI n a (λl=>w l*iv j l)) n
section
variable{n:Nat}
theorem Ug(r s:Nat->Rat)(B:List (Nat->Rat))(w:Nat->Rat):eI n (r::s::B) w=-eI n (s::r::B) w:=by
 have a:∀(r s:Nat->Rat),eI n (r::s::B) w=aS (λj=>aS (λl=>r j*s l*(w j*w l*iv j l*eI n B (λx=>w x*iv j x*iv l x))) n) n:=λr s=>by
  simp only[eI];refine c9 λj _=>?_;rw[<-fP];grind
 rw[a,a,Aq];have:∀(f:Nat->Rat) (N:Nat),-aS f N=aS (λi=>-f i) N:=λf N=>by
  have:=fP (-1) f N;grind
 rw[this];refine c9 λj _=>?_;rw[this];refine c9 λl _=>?_;have e:(λx=>w x*iv l x*iv j x)=λx=>w x*iv j x*iv l x:=funext λx=>by grind
 rw[e,aa5 j l];grind
theorem EE(r s:Nat->Rat)(B:List (Nat->Rat)):∀(A:List (Nat->Rat)) (w:Nat->Rat),eI n (A++r::s::B) w=-eI n (A++s::r::B) w
 | [],w=>Ug r s B w
 | a::A,w=>by
   simp only[mW,eI];have:=fP (-1) (λj=>a j*w j*eI n (A++s::r::B) (λl=>w l*iv j l)) n;have e:aS (λj=>a j*w j*eI n (A++r::s::B) (λl=>w l*iv j l)) n=aS (λj=>(-1)*(a j*w j*eI n (A++s::r::B) (λl=>w l*iv j l))) n:=c9 λj _=>by
    rw[EE r s B A];grind
   grind
theorem EB(r:Nat->Rat)(w:Nat->Rat):∀(B A:List (Nat->Rat)),r∈B->eI n (A++r::B) w=0
 | [],_,h=>by cases h
 | s::B,A,h=>by
   by_cases e:r=s
   ·subst e;have:=EE (n:=n) r r B A w;grind
   ·have a:r∈B:=by
     rcases hH.1 h with h | h
     ·exact absurd h e
     ·exact h
    rw[EE];have:=EB r w B (A++[s]) a;grind
theorem Uh(r:Nat->Rat)(w:Nat->Rat){A B:List (Nat->Rat)}(h:r∈A∨r∈B):eI n (A++r::B) w=0:=by
 rcases h with h | h
 ·obtain⟨a,b,rfl⟩:=List.append_of_mem h;rw[xc];exact EB r w (b++r::B) a (List.mem_append_right _ (.head _))
 ·exact EB r w B A h
theorem EA:∀{A iS:List (Nat->Rat)} (w:Nat->Rat),A.length=iS.length->(∀(i:Nat) (r bG:Nat->Rat),A[i]? = some r->iS[i]? = some bG->∀j,j<n->r j=bG j)->eI n A w=eI n iS w
 | [],[],_,_,_=>rfl
 | r::A,bG::iS,w,a,h=>by
   simp only[eI];refine c9 λj b=>?_;rw[h 0 r bG rfl rfl j b,EA (λl=>w l*iv j l) (by simpa using a) λi a b e c=>h (i+1) a b (by simpa using e) (by simpa using c)]
 | [],_::_,_,a,_=>by simp at a
 | _::_,[],_,a,_=>by simp at a
theorem ED(a b:Rat)(r s:Nat->Rat)(B:List (Nat->Rat)):∀(A:List (Nat->Rat)) (w:Nat->Rat),eI n (A++(λj=>a*r j+b*s j)::B) w=a*eI n (A++r::B) w+b*eI n (A++s::B) w
 | [],w=>by
   simp only[zV,eI];rw[<-fP,<-fP,<-kr];grind
 | c::A,w=>by
   simp only[mW,eI];rw[<-fP,<-fP,<-kr];refine c9 λj _=>?_;rw[ED a b r s B A];grind
theorem Mz(f:Nat->Nat->Rat)(m:Nat->Rat)(A B:List (Nat->Rat))(w:Nat->Rat):∀N,eI n (A++(λj=>aS (λi=>m i*f i j) N)::B) w=aS (λi=>m i*eI n (A++f i::B) w) N
 | 0=>by
   have:=ED (n:=n) 0 0 (λ_=>0) (λ_=>0) B A w;have e:(λj=>aS (λi=>m i*f i j) 0)=λj=>(0:Rat)*(λ_=>(0:Rat)) j+0*(λ_=>(0:Rat)) j:=by
    funext j;simp[aS,lB]
   rw[e,this];simp only[aS];grind
 | N+1=>by
   have e:(λj=>aS (λi=>m i*f i j) (N+1))=λj=>1*(λj=>aS (λi=>m i*f i j) N) j+m N*f N j:=by
    funext j;simp only[aS];grind
   rw[e,ED,Mz f m A B w N];simp only[aS];grind
theorem VS{N:Nat}{C:Nat->Nat->Rat}{g m:Nat->Rat}(a':∀j,j<n->g j=aS (λk=>m k*C k j) N){k:Nat}(av:k<N)(w:Nat->Rat):
 eI n (((List.range N).map C).take k++g::((List.range N).map C).drop (k+1)) w=m k*eI n ((List.range N).map C) w:=by
 have a:eI n (((List.range N).map C).take k++g::((List.range N).map C).drop (k+1)) w=eI n (((List.range N).map C).take k++(λj=>aS (λi=>m i*C i j) N)::((List.range N).map C).drop (k+1)) w:=by
  refine EA w (by simp) λi _ _ _ _ j _=>?_;have b:(((List.range N).map C).take k).length=k:=by simp;omega
  by_cases b:i<k
  ·grind
  ·grind
 rw[a,Mz,nf (j:=k) av λi b _=>?_]
 ·congr 1;have:((List.range N).map C).take k++C k::((List.range N).map C).drop (k+1)=(List.range N).map C:=by
   have h:((List.range N).map C)[k]'(by simpa using av)=C k:=by simp
   rw[<-h,<-List.drop_eq_getElem_cons,zM]
  rw[this]
 ·rw[Uh (C i) w,mX];have a:∀(l:List (Nat->Rat)) (q:Nat),l[q]? = some (C i)->C i∈l:=λl q h=>cX h;by_cases h:i<k
  ·refine .inl (a _ i ?_);grind
  ·refine .inr (a _ (i-(k+1)) ?_);grind
theorem Uf{N:Nat}{C a:Nat->Nat->Rat}{g:Nat->Rat}{k:Nat}(av:k<N)(h:∀i,i<N->a i=if i=k then g else C i)(_:Nat->Rat):(List.range N).map a=((List.range N).map C).take k++g::((List.range N).map C).drop (k+1):=by
 apply n4;grind
def dP(q:Rat)(b:Nat):Prop:=∃z:Int,q=z/\z.natAbs<=b
theorem dP.mono{q:Rat}{a b:Nat}(h:dP q a)(c:a<=b):dP q b:=let ⟨z,d,e⟩:=h;⟨z,d,a8 e c⟩
theorem dP.add{p q:Rat}{a b:Nat}(h:dP p a)(g:dP q b):dP (p+q) (a+b):=by
 obtain⟨x,rfl,_⟩:=h;obtain⟨y,rfl,_⟩:=g;exact⟨x+y,by grind,a8 (Int.natAbs_add_le _ _) (by omega)⟩
theorem dP.mul{p q:Rat}{a b:Nat}(h:dP p a)(g:dP q b):dP (p*q) (a*b):=by
 obtain⟨x,rfl,a⟩:=h;obtain⟨y,rfl,b⟩:=g;exact⟨x*y,by grind,by rw[o8];exact gk a b⟩
theorem dP.sum{f:Nat->Rat}{b:Nat}:∀{n:Nat},(∀i,i<n->dP (f i) b)->dP (aS f n) (n*b)
 | 0,_=>⟨0,by simp[aS],by simp⟩
 | n+1,h=>by
   rw[aS,j0];exact(dP.sum λi _=>h i (by omega)).add (h n (by omega))
theorem Xa(j l:Nat):dP (iv j l) 1:=by
 unfold iv;by_cases a:j<l
 ·rw[aL a];exact⟨1,by simp,by decide⟩
 ·by_cases b:l<j
  ·rw[aw a,aL b];exact⟨-1,by simp,by decide⟩
  ·rw[aw a,aw b];exact⟨0,by simp,by decide⟩
theorem EC{E:Nat}:∀{A:List (Nat->Rat)} {w:Nat->Rat},(∀r∈A,∀j,j<n->dP (r j) E)->(∀j,dP (w j) 1)->dP (eI n A w) ((n*E)^A.length)
 | [],_,_,_=>⟨1,by simp[eI],by simp⟩
 | r::A,w,h,a=>by
   simp only[eI,iK,eB];have:=dP.sum (f:=λj=>r j*w j*eI n A (λl=>w l*iv j l)) (b:=E*1*(n*E)^A.length) (n:=n) λj c=>
    ((h r (.head _) j c).mul (a j)).mul (EC (λr b=>h r (.tail _ b)) λl=>(a l).mul (Xa j l))
   grind
theorem vN{q p r:Rat}{a b B:Nat}(h:q*r=p)(d:dP p a)(e:dP r b)(aP:r≠0)(aI:a<=B)(i:b<=B):bI B q:=by
 obtain⟨x,rfl,b⟩:=d;obtain⟨y,rfl,_⟩:=e;have f:y≠0:=by rintro rfl;exact aP (by simp)
 have e:q.num*y=x*q.den:=by
  have b:((q.num*y:Int):Rat)=((x*(q.den:Int):Int):Rat):=by
   rw[zO,zO,<-s6 q,mU];grind
  exact_mod_cast b
 have a:q.num.natAbs*y.natAbs=x.natAbs*q.den:=by
  have:=congrArg Int.natAbs e;simpa [o8]using this
 have b:q.den∣y.natAbs:=q.reduced.symm.dvd_of_dvd_mul_left (a▸Nat.dvd_mul_left _ _);have g:q.num.natAbs∣x.natAbs:=q.reduced.dvd_of_dvd_mul_right (a▸Nat.dvd_mul_right _ _);have d:0<y.natAbs:=Int.natAbs_pos.2 f;refine⟨?_,a8 (Nat.le_of_dvd d b) (by omega)⟩;by_cases c:x=0
 ·subst c;rw[Int.natAbs_zero,Nat.zero_mul]at a
  rcases Nat.mul_eq_zero.1 a with a | a
  ·grind
  ·omega
 ·exact a8 (Nat.le_of_dvd (Int.natAbs_pos.2 c) g) (by omega)
end
def form(P:bM)(x j:Nat):Rat:=if x<P.n then(if x=j then 1 else 0) else P.A (x-P.n) j
section
variable{P:bM}{c:Nat->Rat}{T:bu}
theorem O5(P:bM){j:Nat}(a:j<P.n):vC P λx=>form P x j:=λi _=>by
 have b:¬P.n+i<P.n:=by omega
 show form P (P.n+i) j=aS (λk=>P.A i k*form P k j) P.n;rw[nf (j:=j) a λk c d=>by simp[form,c,d]];simp only[form,b,if_false,a,if_true,Nat.add_sub_cancel_left];grind
theorem GS(h:Inv P T){i:Nat}(a:i<P.m){j:Nat}(b:j<P.n):form P (T.rows i) j=aS (λk=>T.M i k*form P (T.a k) j) P.n:=(h.ep _).1 (O5 P b) i a
theorem O4(h:Inv P T){j:Nat}(a:j<P.n):c j=aS (λk=>red P c T k*form P (T.a k) j) P.n:=by
 rw[<-zv (c:=c) h (O5 P a),obj,nf (j:=j) a λk b d=>by simp[form,b,d]];simp only[form,a,if_true];grind
structure nt(P:bM)(s:Nat->Nat)(S E:Nat):Prop where
 pos:∀x,1<=s x
 le:∀x,s x<=S
 one:∀x,x<P.n->s x=1
 z:∀x j,x<P.n+P.m->j<P.n->dP ((s x:Rat)*form P x j) E
def k8(P:bM)(s:Nat->Nat)(T:bu)(k j:Nat):Rat:=(s (T.a k):Rat)*form P (T.a k) j
def gB(P:bM)(s:Nat->Nat)(T:bu):Rat:=eI P.n ((List.range P.n).map (k8 P s T)) λ_=>1
theorem Ai{s:Nat->Nat}(h:∀x,1<=s x)(x:Nat):(s x:Rat)≠0:=by
 have:=h x;intro e;have:s x=0:=by exact_mod_cast e
 omega
theorem Fl{s:Nat->Nat}(a:∀x,1<=s x){g:Nat->Rat}{m:Nat->Rat}{t:Nat}(a':∀j,j<P.n->g j=aS (λk=>m k*form P (T.a k) j) P.n){k:Nat}(av:k<P.n):
 eI P.n (((List.range P.n).map (k8 P s T)).take k++(λj=>(t:Rat)*g j)::((List.range P.n).map (k8 P s T)).drop (k+1)) (λ_=>1)*(s (T.a k):Rat)=m k*((t:Rat)*gB P s T):=by
 have b:∀j,j<P.n->(λj=>(t:Rat)*g j) j=aS (λk=>((t:Rat)*m k/(s (T.a k):Rat))*k8 P s T k j) P.n:=λj c=>by
  show(t:Rat)*g j=_;rw[a' j c,<-fP];refine c9 λk _=>?_;unfold k8;have:=Ai a (T.a k);grind
 rw[VS b av,gB];have:=Ai a (T.a k);grind
theorem Mw{s:Nat->Nat}(b:∀x,1<=s x)(h:Inv P T){a ad:Nat}(aI:a<P.m)(c:ad<P.n)(f:T.M a ad≠0)(f:gB P s T≠0):gB P s (T.X a ad)≠0:=by
 have d:=Fl (T:=T) b (t:=s (T.rows a)) (λj f=>GS h aI f) c;have g:(List.range P.n).map (k8 P s (T.X a ad))=((List.range P.n).map (k8 P s T)).take ad++(λj=>(s (T.rows a):Rat)*form P (T.rows a) j)::((List.range P.n).map (k8 P s T)).drop (ad+1):=by
  refine Uf c (λi _=>?_) (λ_=>1);funext j;unfold k8;by_cases e:i=ad
  ·subst e;show(s (if i=i then _ else _):Rat)*form P (if i=i then _ else _) j=_;simp
  ·show(s (if i=ad then _ else _):Rat)*form P (if i=ad then _ else _) j=_;simp[e]
 rw[<-g]at d;intro c;have e:eI P.n ((List.range P.n).map (k8 P s (T.X a ad))) (λ_=>1)=0:=c;rw[e,Rat.zero_mul]at d;have:=Ai b (T.rows a);grind
theorem DG{s:Nat->Nat}{S:Nat}(h:∀x,s x<=S)(x:Nat):dP (s x:Rat) S:=⟨(s x:Int),(mU _).symm,by simpa using h x⟩
variable{s:Nat->Nat}{S E:Nat}
theorem Ez(a:nt P s S E)(h:dT P T):∀r∈(List.range P.n).map (k8 P s T),∀j,j<P.n->dP (r j) E:=by
 intro r b j c;obtain⟨k,d,rfl⟩:=gl.1 b;exact a.z _ j (h.c k (o6.1 d)) c
theorem x1(a:nt P s S E)(h:dT P T):dP (gB P s T) ((P.n*E)^P.n):=by
 have:=EC (n:=P.n) (w:=λ_=>1) (Ez a h) λ_=>⟨1,by simp,by decide⟩;simpa [gB]using this
theorem QX(c:nt P s S E)(h:dT P T){g:Nat->Rat}(a':∀j,j<P.n->dP (g j) E){k:Nat}(av:k<P.n):dP (eI P.n (((List.range P.n).map (k8 P s T)).take k++g::((List.range P.n).map (k8 P s T)).drop (k+1)) λ_=>1) ((P.n*E)^P.n):=by
 have:=EC (n:=P.n) (E:=E) (w:=λ_=>1) (A:=((List.range P.n).map (k8 P s T)).take k++g::((List.range P.n).map (k8 P s T)).drop (k+1)) (λr a j b=>by
  rcases fc.1 a with a | a
  ·exact Ez c h r (tt a) j b
  ·rcases hH.1 a with rfl | a
   ·exact a' j b
   ·exact Ez c h r (Dd a) j b) λ_=>⟨1,by simp,by decide⟩
 grind
theorem MN(a:nt P s S E)(h:Inv P T){i k:Nat}(c:i<P.m)(av:k<P.n):dP (T.M i k*((s (T.rows i):Rat)*gB P s T)) ((P.n*E)^P.n*S):=by
 rw[<-Fl (T:=T) a.pos (t:=s (T.rows i)) (λj b=>GS h c b) av];exact(QX a h.B (λj b=>a.z _ j (h.B.r i c) b) av).mul (DG a.le _)
theorem UC(a:nt P s S E)(h:Inv P T)(c:gB P s T≠0){i k:Nat}(b:i<P.m)(av:k<P.n):bI ((P.n*E)^P.n*S) (T.M i k):=
 vN rfl (MN a h b av) ((DG a.le _).mul (x1 a h.B)) (λe=>by
  rcases u9.1 e with b | b
  ·exact Ai a.pos _ b
  ·exact c b) (bc _) (Nat.le_of_eq (eZ _ _))
theorem aaE(b:nt P s S E)(h:Inv P T)(a:gB P s T≠0){a:Nat}(d:1<=a)(d:a<=S)(f:∀j,j<P.n->dP ((a:Rat)*c j) E){k:Nat}(av:k<P.n):bI ((P.n*E)^P.n*S) (red P c T k):=by
 have g:=Fl (T:=T) b.pos (t:=a) (λj e=>O4 (c:=c) h e) av;have e:(a:Rat)≠0:=by
  intro e;have:a=0:=by exact_mod_cast e
  omega
 refine vN g.symm ((QX b h.B f av).mul (DG b.le _)) ((show dP (a:Rat) S from⟨(a:Int),(mU _).symm,by simpa using d⟩).mul (x1 b h.B)) (λe=>?_) (bc _) (Nat.le_of_eq (eZ _ _));grind
def mS(f:Nat->Nat):Nat->Nat
 | 0=>1
 | n+1=>mS f n*f n
theorem u0{f:Nat->Nat}(h:∀i,1<=f i):∀n,1<=mS f n
 | 0=>bc _
 | n+1=>tm (u0 h n) (h n)
theorem tg{f:Nat->Nat}{B:Nat}:∀{n:Nat},(∀i,i<n->f i<=B)->mS f n<=B^n
 | 0,_=>bc _
 | n+1,h=>by
   rw[mS,eB];exact gk (tg λi _=>h i (by omega)) (h n (by omega))
theorem uZ{f:Nat->Nat}:∀{n i:Nat},i<n->f i∣mS f n
 | n+1,i,_=>by
   rw[mS];by_cases e:i=n
   ·subst e;exact Nat.dvd_mul_left _ _
   ·exact Nat.dvd_trans (uZ (by omega)) (Nat.dvd_mul_right _ _)
theorem yT{q:Rat}{B Q:Nat}(a:bI B q)(b:q.den∣Q){R:Nat}(c:Q<=R):dP (q*(Q:Rat)) (B*R):=by
 obtain⟨e,rfl⟩:=b;have b:q*((q.den*e:Nat):Rat)=((q.num*(e:Int):Int):Rat):=by
  have:=s6 q;simp only[Rat.natCast_mul,zO,mU];grind
 refine⟨_,b,?_⟩;rw[o8];refine gk a.1 ?_;have:=q.den_pos;exact a8 (xq e this) c
def iW(P:bM)(T:bu):Nat:=mS (λk=>(T.v (T.a k)).den) P.n
theorem MT(T:bu):(iW P T:Rat)≠0:=by
 intro e;have:iW P T=0:=by exact_mod_cast e
 have:=u0 (f:=λk=>(T.v (T.a k)).den) (λk=>(T.v (T.a k)).den_pos) P.n;unfold iW at*
 omega
theorem Ba{T:bu}{V:Nat}(a:∀k,k<P.n->bI V (T.v (T.a k))):iW P T<=V^P.n:=tg λk b=>(a k b).2
def jP(n F S V:Nat):Nat:=n*(F*S*(V*V^n))+F*S*(V*V^n)
theorem Sq(d:nt P s S E)(h:Inv P T){V:Nat}(b:∀k,k<P.n->bI V (T.v (T.a k))){i:Nat}(c:i<P.m):dP (T.v (T.rows i)*((s (T.rows i):Rat)*gB P s T*(iW P T:Rat))) (P.n*((P.n*E)^P.n*S*(V*V^P.n))):=by
 have e:T.v (T.rows i)*((s (T.rows i):Rat)*gB P s T*(iW P T:Rat))=aS (λk=>T.M i k*((s (T.rows i):Rat)*gB P s T)*(T.v (T.a k)*(iW P T:Rat))) P.n:=by
  rw[(h.ep _).1 h.val i c];have:=fP ((s (T.rows i):Rat)*gB P s T*(iW P T:Rat)) (λk=>T.M i k*T.v (T.a k)) P.n;rw[nY,<-this];exact c9 λk _=>by grind
 rw[e];exact dP.sum λk a=>(MN d h c a).mul (yT (b k a) (uZ a) (Ba b))
theorem one_le_pow{V n:Nat}(h:1<=V):1<=V^n:=xg _ _ h
theorem JR(a:nt P s S E)(h:Inv P T)(e:gB P s T≠0){V:Nat}(f:1<=V)(b:∀k,k<P.n->bI V (T.v (T.a k))){x:Nat}(d:x<P.n+P.m):bI (jP P.n ((P.n*E)^P.n) S V+V) (T.v x):=by
 rcases h.B.jQ x d with⟨i,az,rfl⟩ | ⟨k,av,rfl⟩
 ·refine vN rfl (Sq a h b az) (((DG a.le _).mul (x1 a h.B)).mul (show dP (iW P T:Rat) (V^P.n) from⟨(iW P T:Int),(mU _).symm,by simpa using Ba b⟩)) (λg=>?_) ?_ ?_
  ·rcases u9.1 g with c | c
   ·rcases u9.1 c with d | d
    ·exact Ai a.pos _ d
    ·exact e d
   ·exact MT T c
  ·unfold jP;omega
  ·have a:S*(P.n*E)^P.n*V^P.n<=(P.n*E)^P.n*S*(V*V^P.n):=by
    rw[eZ S];exact nZ _ (xq _ f)
   unfold jP;omega
 ·obtain⟨_,_⟩:=b k av;exact⟨by omega,by omega⟩
theorem Q'(b:nt P s S E)(h:Inv P T)(m:gB P s T≠0){V:Nat}(n:1<=V)(d:∀k,k<P.n->bI V (T.v (T.a k))){a:Nat}(o:1<=a)(l:a<=S)(p:∀j,j<P.n->dP ((a:Rat)*c j) E):bI (P.n*(E*jP P.n ((P.n*E)^P.n) S V)+jP P.n ((P.n*E)^P.n) S V) (obj P c T.v):=by
 have q:1<=S:=a8 o l;have r:(a:Rat)≠0:=by
  intro e;have:a=0:=by exact_mod_cast e
  omega
 have t:∀j,j<P.n->dP (T.v j*(gB P s T*(iW P T:Rat))) (jP P.n ((P.n*E)^P.n) S V):=λj g=>by
  rcases h.B.jQ j (by omega) with⟨i,az,e⟩ | ⟨k,av,e⟩
  ·have:=Sq b h d az;rw[e,b.one j g]at this;have c:T.v j*(((1:Nat):Rat)*gB P s T*(iW P T:Rat))=T.v j*(gB P s T*(iW P T:Rat)):=by simp;try grind
   rw[c]at this;exact this.mono (by unfold jP;omega)
  ·have i:=yT (d k av) (uZ (f:=λk=>(T.v (T.a k)).den) av) (Ba d);have c:=(x1 b h.B).mul i;rw[e]at c;have i:gB P s T*(T.v j*(mS (λk=>(T.v (T.a k)).den) P.n:Rat))=T.v j*(gB P s T*(iW P T:Rat)):=by unfold iW;grind
   rw[i]at c;refine c.mono ?_;have:(P.n*E)^P.n*(V*V^P.n)<=(P.n*E)^P.n*S*(V*V^P.n):=fV _ (xp _ q);unfold jP;omega
 have e:obj P c T.v*((a:Rat)*(gB P s T*(iW P T:Rat)))=aS (λj=>((a:Rat)*c j)*(T.v j*(gB P s T*(iW P T:Rat)))) P.n:=by
  have:=fP ((a:Rat)*(gB P s T*(iW P T:Rat))) (λj=>c j*T.v j) P.n;rw[obj,nY,<-this];exact c9 λj _=>by grind
 refine vN e (dP.sum λj g=>(p j g).mul (t j g)) ((show dP (a:Rat) S from⟨(a:Int),(mU _).symm,by simpa using l⟩).mul ((x1 b h.B).mul (show dP (iW P T:Rat) (V^P.n) from⟨(iW P T:Int),(mU _).symm,by simpa using Ba d⟩))) (λe=>?_) (by omega) ?_
 ·rcases u9.1 e with c | c
  ·exact r c
  ·rcases u9.1 c with a | a
   ·exact m a
   ·exact MT T a
 ·have a:S*((P.n*E)^P.n*V^P.n)<=(P.n*E)^P.n*S*(V*V^P.n):=by
   rw[<-l3,eZ S];exact nZ _ (xq _ n)
  have:(P.n*E)^P.n*S*(V*V^P.n)<=jP P.n ((P.n*E)^P.n) S V:=by unfold jP;omega
  omega
end
end Go.Dam.C
namespace Go.Dam.C
open Go Go.Dam
structure fC(X:aA):Prop extends fA X where
 rY:Has X F.rY C.rY
 mc:Has X F.mc C.mc
 sg:Has X F.sg C.sg
 sd:Has X F.sd C.sd
 qL:Has X F.qL C.qL
 qM:Has X F.qM C.qM
 qG:Has X F.qG C.qG
 pv:Has X F.pv C.pv
 sb:Has X F.sb C.sb
 sh:Has X F.sh C.sh
 sa:Has X F.sa C.sa
 qH:Has X F.qH C.qH
 qO:Has X F.qO C.qO
 r':Has X F.r' C.r'
 qP:Has X F.qP C.qP
 sc:Has X F.sc C.sc
 r9:Has X F.r9 C.r9
 qQ:Has X F.qQ C.qQ
 qN:Has X F.qN C.qN
 qI:Has X F.qI C.qI
 sf:Has X F.sf C.sf
 se:Has X F.se C.se
 qF:Has X F.qF C.qF
variable{X:aA}{pm:Perm}{H ab bX:ae}{n:Nat}
def fv(H:ae)(v:Value):Option Rat->Prop
 | none=>v=.pointer none
 | some q=>b4 H v q
theorem fv.up{v:Value}{o:Option Rat}(h:fv H v o)(u:aC pm n H ab):fv ab v o:=by
 cases o with
 | none=>exact h
 | some _=>exact b4.up h u
theorem fv.ext{v:Value}{o:Option Rat}(h:fv H v o)(u:Ext H ab):fv ab v o:=by
 cases o with
 | none=>exact h
 | some _=>exact b4.ext h u
def fl(l:List UInt8):Option Rat:=if l=[] then none else some (rd l)
theorem xY(b:fC X)(g:bl pm H){l:List UInt8} (a:l≠[]->isNum l=true)(aY:l.length<1000000:=by omega):Call X pm F.mc [ak l] H λr ab=>K pm H ab/\fv ab r (fl l):=by
 refine Call.has b.mc rfl ?_;by_cases h:l=[]
 ·subst h;simp[eM,fl,fv];exact K.refl g
 ·have c:(l==[])=false:=by simpa using h
  have i:l.isEmpty=false:=by simpa using h
  simp[eM,c,];refine al.of (qS b.toEL g aY) ?_;rintro r _ ⟨d,f⟩;have a:=a h
  rcases f with⟨e,rfl⟩ | ⟨q,p,e,rfl,fw⟩
  ·simp[isNum,e]at a
  ·simp[fl,h,rd,e,fv];exact⟨d,fw⟩
def tF(ah a:Option Rat):Rat:=match ah with
 | some l=>l
 | none=>a.getD 0
theorem abq(l:fC X)(g:bl pm H){a b c:Value}{ah j:Option Rat}(aI:fv H a ah)(m:fv H b j)(_:dd c=true):Call X pm F.sg [.agg #[a,b,c]] H λr ab=>K pm H ab/\b4 ab r (tF ah j):=by
 refine Call.W l.sg rfl λ_ k=>?_;obtain⟨f,e⟩:∃f,f=H.new (.cells [a,b,c] (.t T.r8)):=⟨_,rfl⟩;have d:K pm H f:=by rw[e];exact K.new g _
 have h:f.get H.next=some (.cells [a,b,c] (.t T.r8)):=by rw[e];exact cc
 obtain⟨_,i⟩:∃b,b=H.next:=⟨_,rfl⟩;rw[<-i]at h
 cases ah with
 | some _=>
   obtain⟨a,rfl,b⟩:=id aI;simp[g.pick,g.make,ptr,<-e,<-i,h];refine k _ _ _ ?_;simp;exact⟨d,⟨a,rfl,d.some g b⟩⟩
 | none=>
   obtain rfl:a=.pointer none:=aI
   cases j with
   | some _=>
     obtain⟨a,rfl,b⟩:=id m;simp[g.pick,g.make,ptr,<-e,<-i,h];refine k _ _ _ ?_;simp;exact⟨d,⟨a,rfl,d.some g b⟩⟩
   | none=>
     obtain rfl:b=.pointer none:=m;simp[g.pick,g.make,ptr,<-e,<-i,h];refine al.of (aq:=[.int .i64 0]) (ml l.toEL d.q (n:=0) (by omega) (by omega)) ?_;rintro r _ ⟨a,c⟩;simp;refine k _ _ _ ?_;simp;exact⟨d.trans a,by simpa [tF]using c⟩
structure mj(H:ae)(P:bM)(v:Nat->Rat)(x:Nat)(a b c:Value):Prop where
 ah:fv H a (P.ah x)
 up:fv H b (P.up x)
 v:b4 H c (v x)
theorem mj.k{P:bM}{v:Nat->Rat}{x:Nat}{a b c:Value}(h:mj H P v x a b c)(u:aC pm n H ab):mj ab P v x a b c:=⟨h.ah.up u,h.up.up u,h.v.up u⟩
structure Bf(P:bM)(v:Nat->Rat)(x t:Nat):Prop where
 ah:∀l,P.ah x=some l->aV l t
 up:∀u,P.up x=some u->aV u t
 v:aV (v x) t
section
variable(gO:fC X)(g:bl pm H){P:bM}{v:Nat->Rat}{x t:Nat}{a b c:Value}(c1:mj H P v x a b c)(ax:Bf P v x t)(sZ:t<=30000000)
include gO g c1 ax sZ
theorem NV{aM:Int}:Call X pm F.qG [.agg #[a,b,c],.int .i64 aM] H λr ab=>K pm H ab/\r=.bool (can P v x aM):=by
 refine Call.W gO.qG rfl λ_ l=>?_;obtain⟨m,i⟩:∃m,m=H.new (.cells [a,b,c] (.t T.r8)):=⟨_,rfl⟩;have e:K pm H m:=by rw[i];exact K.new g _
 have j:m.get H.next=some (.cells [a,b,c] (.t T.r8)):=by rw[i];exact cc
 obtain⟨_,k⟩:∃b,b=H.next:=⟨_,rfl⟩;rw[<-k]at j;have n:t<=gZ:=a8 sZ (by decide);obtain⟨d,f,o⟩:=c1;obtain⟨s,u,p⟩:=ax;obtain⟨_,rfl,_⟩:=id o;have q:=o.up e;by_cases h:0<aM
 ·cases c:P.up x with
  | none=>
    rw[c]at f;obtain rfl:b=.pointer none:=f;have t:∃r,a=.pointer r:=by
     cases a:P.ah x with
     | none=>rw[a]at d;exact⟨_,d⟩
     | some _=>rw[a]at d;obtain⟨_,rfl,_⟩:=d;exact⟨_,rfl⟩
    obtain⟨r,rfl⟩:=t;simp[g.pick,g.make,ptr,<-i,<-k,j,h,aR];refine al.not ?_;simp[aR];refine l _ _ _ ?_;simp[can,h,c];exact e
  | some r=>
    rw[c]at f;obtain⟨_,rfl,_⟩:=id f;have t:∃b,a=.pointer b:=by
     cases a:P.ah x with
     | none=>rw[a]at d;exact⟨_,d⟩
     | some _=>rw[a]at d;obtain⟨_,rfl,_⟩:=d;exact⟨_,rfl⟩
    obtain⟨b,rfl⟩:=t;simp[g.pick,g.make,ptr,<-i,<-k,j,h,aR];refine al.of (k7 gO.toEL e.q q.of (b4.of (b4.up f e)) (p.bo n) ((u r c).bo n)) ?_;rintro _ _ ⟨rfl,rfl⟩;simp;refine l _ _ _ ?_;simp[can,h,c,kb];exact e
 ·have r:∃c,b=.pointer c:=by
   cases a:P.up x with
   | none=>rw[a]at f;exact⟨_,f⟩
   | some _=>rw[a]at f;obtain⟨_,rfl,_⟩:=f;exact⟨_,rfl⟩
  obtain⟨c,rfl⟩:=r
  cases b:P.ah x with
  | none=>
    rw[b]at d;obtain rfl:a=.pointer none:=d;simp[g.pick,g.make,ptr,<-i,<-k,j,h,aR];refine al.not ?_;simp[aR];refine l _ _ _ ?_;simp[can,h,b];exact e
  | some a=>
    rw[b]at d;obtain⟨_,rfl,_⟩:=id d;simp[g.pick,g.make,ptr,<-i,<-k,j,h,aR];refine al.of (k7 gO.toEL e.q q.of (b4.of (b4.up d e)) (p.bo n) ((s a b).bo n)) ?_;rintro _ _ ⟨rfl,rfl⟩;simp;refine l _ _ _ ?_;simp[can,h,b,nz];exact e
end
end Go.Dam.C
namespace Go.Dam.C
open Go Go.Dam
variable{X:aA}{pm:Perm}{H ab bX ai:ae}{n:Nat}
theorem fv.ptr{v:Value}{o:Option Rat}(h:fv H v o):∃p,v=.pointer p:=by
 cases o with
 | none=>exact⟨_,h⟩
 | some _=>obtain⟨_,rfl,_⟩:=h;grind
section
variable(gO:fC X)(g:bl pm H){P:bM}{v:Nat->Rat}{x t:Nat}{a b c:Value}(c1:mj H P v x a b c)(ax:Bf P v x t)(sZ:t<=30000000)
include gO g c1 ax sZ
theorem HS:Call X pm F.pv [.agg #[a,b,c]] H λr ab=>K pm H ab/\r=.int .i64 (off P v x):=by
 refine Call.W gO.pv rfl λQ k=>?_;obtain⟨h,m⟩:∃h,h=H.new (.cells [a,b,c] (.t T.r8)):=⟨_,rfl⟩;have d:K pm H h:=by rw[m];exact K.new g _
 have i:h.get H.next=some (.cells [a,b,c] (.t T.r8)):=by rw[m];exact cc
 obtain⟨w,o⟩:∃b,b=H.next:=⟨_,rfl⟩;rw[<-o]at i;have n:t<=gZ:=a8 sZ (by decide);obtain⟨j,e,p⟩:=c1;obtain⟨y,z,q⟩:=ax;obtain⟨_,rfl,_⟩:=id p;have r:=p.up d;have s:∀(L:bn),aF 1 L=some (.pointer (some ⟨w,0,none⟩))->(∀l,P.ah x=some l->¬v x<l)->aF 3 L=some (.bool false)->wp X pm (.code vo) L h [.bj 0,.seq AM] Q:=by
  intro L g A t;have c:off P v x=p8 P v x:=by
   unfold off
   cases f:P.ah x with
   | none=>rfl
   | some l=>simp[A l f]
  cases a:P.up x with
  | none=>
    rw[a]at e;obtain rfl:b=.pointer none:=e;simp[g,t,i,aR];refine al.not ?_;simp[aR];refine k _ _ _ ?_;simp[c,p8,a];exact d
  | some u=>
    rw[a]at e;obtain⟨_,rfl,_⟩:=id e;simp[g,t,i,];refine al.of (k7 gO.toEL d.q r.of (b4.of (b4.up e d)) (q.bo n) ((z u a).bo n)) ?_;rintro _ _ ⟨rfl,rfl⟩;by_cases b:u<v x
    ·simp[nz,b];refine k _ _ _ ?_;simp[c,p8,a,b];exact d
    ·simp[nz,b];refine k _ _ _ ?_;simp[c,p8,a,b];exact d
 obtain⟨_,rfl⟩:=e.ptr
 cases f:P.ah x with
 | none=>
   rw[f]at j;obtain rfl:a=.pointer none:=j;simp[g.pick,g.make,ptr,<-m,<-o,i,aR,-vo];refine al.not ?_;simp[aR,-vo,-AM];exact s _ (by simp) (λl _=>by grind) (by simp)
 | some l=>
   rw[f]at j;obtain⟨_,rfl,_⟩:=id j;simp[g.pick,g.make,ptr,<-m,<-o,i, -vo];refine al.of (k7 gO.toEL d.q r.of (b4.of (b4.up j d)) (q.bo n) ((y l f).bo n)) ?_;rintro _ _ ⟨rfl,rfl⟩;by_cases a:v x<l
   ·simp[aR,kb,a];refine k _ _ _ ?_;simp[off,f,a];exact d
   ·simp[kb,a,-vo,-AM];exact s _ (by simp) (λ_ _=>by grind) (by simp)
theorem Sg{aM:Int}:Call X pm F.qP [.agg #[a,b,c],.int .i64 aM] H λr ab=>K pm H ab/\fv ab r (room P v x aM):=by
 refine Call.W gO.qP rfl λ_ l=>?_;obtain⟨m,f⟩:∃m,m=H.new (.cells [a,b,c] (.t T.r8)):=⟨_,rfl⟩;have d:K pm H m:=by rw[f];exact K.new g _
 have h:m.get H.next=some (.cells [a,b,c] (.t T.r8)):=by rw[f];exact cc
 obtain⟨_,i⟩:∃b,b=H.next:=⟨_,rfl⟩;rw[<-i]at h;have n:t<=gZ:=a8 sZ (by decide);obtain⟨j,k,o⟩:=c1;obtain⟨s,u,p⟩:=ax;obtain⟨_,rfl,_⟩:=id o;have q:=o.up d;obtain⟨_,rfl⟩:=j.ptr;obtain⟨_,rfl⟩:=k.ptr;by_cases e:0<aM
 ·have b:¬aM<0:=by omega
  cases a:P.up x with
  | none=>
    rw[a]at k;cases k;simp[g.pick,g.make,ptr,<-f,<-i,h,e,b,aR];refine l _ _ _ ?_;simp[room,e,b,a,fv];exact d
  | some c=>
    rw[a]at k;obtain⟨_,t,_⟩:=id k;cases t;simp[g.pick,g.make,ptr,<-f,<-i,h,e,b,aR];refine al.of (Be gO.toEL d.q (b4.of (b4.up k d)) q.of ((u c a).bo n) (p.bo n)) ?_;rintro r _ ⟨b,c⟩;simp;refine l _ _ _ ?_;simp[room,e,a,fv];exact⟨d.trans b,c⟩
 ·by_cases a:aM<0
  ·cases b:P.ah x with
   | none=>
     rw[b]at j;cases j;simp[g.pick,g.make,ptr,<-f,<-i,h,e,a,aR];refine l _ _ _ ?_;simp[room,e,a,b,fv];exact d
   | some c=>
     rw[b]at j;obtain⟨_,t,_⟩:=id j;cases t;simp[g.pick,g.make,ptr,<-f,<-i,h,e,a,aR];refine al.of (Be gO.toEL d.q q.of (b4.of (b4.up j d)) (p.bo n) ((s c b).bo n)) ?_;rintro r _ ⟨c,j⟩;simp;refine l _ _ _ ?_;simp[room,e,a,b,fv];exact⟨d.trans c,j⟩
  ·simp[g.pick,g.make,ptr,<-f,<-i,h,e,a,aR];refine l _ _ _ ?_;simp[room,e,a,fv];exact d
end
abbrev tyT:Nat:=T.acu
abbrev tyV:Nat:=T.r8
theorem ej{ah:Nat}{ok:List Nat}{o:Option Nat}{b:Nat}(h:ah<=b):Perm.may ⟨ah,ok,o⟩ b=true:=by
 unfold Perm.may;rw[cJ];simp[h]
def aZ(b k:Nat):Value:=if k=0 then .slice none 0 0 else .slice (some ⟨b,0,none⟩) k k
theorem dA{b k:Nat}(h:0<k):aZ b k=.slice (some ⟨b,0,none⟩) k k:=aw (by omega)
def pG(H:ae)(b k:Nat)(f:Nat->Nat):Prop:=∃a,H.get b=some (.cells a (.n 1))/\a.length=k/\∀i,i<k->a[i]? = some (.int .i64 (f i:Int))
def tW(H:ae)(P:bM)(b k:Nat)(v:Nat->Rat):Prop:=∃a,H.get b=some (.cells a (.n 3))/\a.length=k*3/\∀x,x<k->∃p q c,a[x*3]? = some p/\a[x*3+1]? = some q/\a[x*3+2]? = some c/\mj H P v x p q c
def x6(H:ae)(b k w:Nat)(c:Nat->Nat):Prop:=∃a,H.get b=some (.cells a (.n 1))/\a.length=k/\∀i,i<k->a[i]? = some (.slice (some ⟨c (5+i),0,none⟩) w w)
structure cT(P:bM)(aW:Nat)(H:ae)(aj:Nat->Nat)(lc bJ:Value)(T:bu):Prop where
 t:H.get (aj 0)=some (.cells [lc,bJ,aZ (aj 1) (P.n+P.m),aZ (aj 2) P.m,aZ (aj 3) P.n,aZ (aj 4) P.m] (.t tyT))
 v:0<P.n+P.m->tW H P (aj 1) (P.n+P.m) T.v
 r:0<P.m->pG H (aj 2) P.m T.rows
 c:0<P.n->pG H (aj 3) P.n T.a
 m:0<P.m->x6 H (aj 4) P.m P.n aj
 row:∀i,i<P.m->dD H (aj (5+i)) P.n P.n (T.M i)
 inj:∀i j,i<5+P.m->j<5+P.m->aj i=aj j->i=j
 ge:∀i,i<5+P.m->aW<=aj i
theorem pG.ext{b k:Nat}{f:Nat->Nat}(h:pG H b k f)(e:∀y,H.get b=some y->ab.get b=some y):pG ab b k f:=let ⟨a,c,d⟩:=h;⟨a,e _ c,d⟩
theorem x6.ext{b k w:Nat}{f:Nat->Nat}(h:x6 H b k w f)(e:∀y,H.get b=some y->ab.get b=some y):x6 ab b k w f:=let ⟨a,c,d⟩:=h;⟨a,e _ c,d⟩
theorem tW.ext{P:bM}{b k:Nat}{v:Nat->Rat}(h:tW H P b k v)(u:aC pm n H ab)(e:∀y,H.get b=some y->ab.get b=some y):tW ab P b k v:=by
 obtain⟨a,b,c,d⟩:=h;refine⟨a,e _ b,c,λx a=>?_⟩;obtain⟨p,q,c,b,f,g,i⟩:=d x a;exact⟨p,q,c,b,f,g,i.k u⟩
theorem dD.ext{c w k:Nat}{x:Nat->Rat}(h:dD H c w k x)(u:aC pm n H ab)(e:∀y,H.get c=some y->ab.get c=some y):dD ab c w k x:=by
 obtain⟨a,b,c,d⟩:=h;refine⟨a,e _ b,c,λi a=>?_⟩;obtain⟨p,b,c⟩:=d i a;exact⟨p,b,c.up u⟩
section
variable{P:bM}{aW:Nat}{aj:Nat->Nat}{lc bJ:Value}{T:bu}
theorem cT.k(h:cT P aW H aj lc bJ T)(g:bl pm H)(k:K pm H ab):cT P aW ab aj lc bJ T where
 t:=k.some g h.t
 v:=λa=>(h.v a).ext k λ_ e=>k.some g e
 r:=λa=>(h.r a).ext λ_ e=>k.some g e
 c:=λa=>(h.c a).ext λ_ e=>k.some g e
 m:=λa=>(h.m a).ext λ_ e=>k.some g e
 row:=λi a=>(h.row i a).ext k λ_ e=>k.some g e
 inj:=h.inj
 ge:=h.ge
theorem cT.mono(h:cT P aW H aj lc bJ T){a:Nat}(b:a<=aW):cT P a H aj lc bJ T:=⟨h.t,h.v,h.r,h.c,h.m,h.row,h.inj,λi a=>a8 b (h.ge i a)⟩
theorem cT.ne(h:cT P aW H aj lc bJ T){i j:Nat}(a:i<5+P.m)(b:j<5+P.m)(c:i≠j):aj i≠aj j:=λe=>c (h.inj i j a b e)
theorem gw{b c:Nat}{x:bz}(h:b≠c):∀y,H.get b=some y->(H.put c x).get b=some y:=λy e=>by rw[a6 h];exact e
theorem uA{ch:List Value}{i j:Nat}{u:Value} (h:i≠j:=by omega):(ch.set j u)[i]? = ch[i]?:=by
 rw[List.getElem?_set,aw (λe=>h e.symm)]
theorem cT.SX(h:cT P aW H aj lc bJ T)(g:bl pm H){x:Nat}(b:x<P.n+P.m){u:Value}{q:Rat}(m:b4 H u q){ch:List Value}(e:H.get (aj 1)=some (.cells ch (.n 3))):
 aC pm aW H (H.put (aj 1) (.cells (ch.set (x*3+2) u) (.n 3)))/\cT P aW (H.put (aj 1) (.cells (ch.set (x*3+2) u) (.n 3))) aj lc bJ {T with v:=λy=>if y=x then q else T.v y}:=by
 have a:aC pm aW H (H.put (aj 1) (.cells (ch.set (x*3+2) u) (.n 3))):=aC.put (.refl g) (h.ge 1 (by omega)) e (by simp) _;have ne:∀i,i<5+P.m->i≠1->aj i≠aj 1:=λi d b=>h.ne d (by omega) b;refine⟨a,gw (ne 0 (by omega) (by decide)) _ h.t,λb=>?_,λb=>(h.r b).ext (gw (ne 2 (by omega) (by decide))),λb=>(h.c b).ext (gw (ne 3 (by omega) (by decide))),λb=>(h.m b).ext (gw (ne 4 (by omega) (by decide))),λi d=>(h.row i d).ext a (gw (ne _ (by omega) (by omega))),h.inj,h.ge⟩;obtain⟨_,f,n,o⟩:=h.v b;rw[e]at f;cases f;refine⟨_,bO,by rw[tl];exact n,λy b=>?_⟩;obtain⟨p,r,s,j,k,t,c⟩:=o y b;by_cases l:y=x
 ·subst l;refine⟨p,r,u,by rw[uA];exact j,by rw[uA];exact k,by rw[List.getElem?_set,aL rfl,aL (by omega)],c.ah.up a,c.up.up a,?_⟩;simpa using m.up a
 ·refine⟨p,r,s,by rw[uA];exact j,by rw[uA];exact k,by rw[uA];exact t,c.ah.up a,c.up.up a,?_⟩;simpa [l]using c.v.up a
theorem cT.DI(h:cT P aW H aj lc bJ T)(g:bl pm H){i k:Nat}(c:i<P.m)(av:k<P.n){u:Value}{q:Rat}(m:b4 H u q){ch:List Value}(f:H.get (aj (5+i))=some (.cells ch (.n 1))):
 aC pm aW H (H.put (aj (5+i)) (.cells (ch.set k u) (.n 1)))/\cT P aW (H.put (aj (5+i)) (.cells (ch.set k u) (.n 1))) aj lc bJ {T with M:=λa b=>if a=i/\b=k then q else T.M a b}:=by
 have d:aC pm aW H (H.put (aj (5+i)) (.cells (ch.set k u) (.n 1))):=aC.put (.refl g) (h.ge _ (by omega)) f (by simp) _;have ne:∀j,j<5+P.m->j≠5+i->aj j≠aj (5+i):=λj e c=>h.ne e (by omega) c;refine⟨d,gw (ne 0 (by omega) (by omega)) _ h.t,λc=>(h.v c).ext d (gw (ne 1 (by omega) (by omega))),λc=>(h.r c).ext (gw (ne 2 (by omega) (by omega))),λc=>(h.c c).ext (gw (ne 3 (by omega) (by omega))),λc=>(h.m c).ext (gw (ne 4 (by omega) (by omega))),λj e=>?_,h.inj,h.ge⟩;by_cases l:j=i
 ·subst l;obtain⟨_,g,i,n⟩:=h.row j e;rw[f]at g;cases g;refine⟨_,bO,by rw[tl];exact i,λb c=>?_⟩;obtain⟨p,o,q⟩:=n b c;by_cases a:b=k
  ·subst a;refine⟨u,by rw[List.getElem?_set,aL rfl,aL (by omega)],?_⟩;simpa using m.up d
  ·refine⟨p,by rw[uA (h:=a)];exact o,?_⟩;simpa [a]using q.up d
 ·have:=(h.row j e).ext d (gw (ne _ (by omega) (by omega)));refine this.congr λb _=>?_;simp[l]
theorem cT.congr{a:bu}(h:cT P aW H aj lc bJ T)(d:∀x,x<P.n+P.m->a.v x=T.v x)(e:∀i,i<P.m->a.rows i=T.rows i)(f:∀k,k<P.n->a.a k=T.a k)(g:∀i k,i<P.m->k<P.n->a.M i k=T.M i k):cT P aW H aj lc bJ a where
 t:=h.t
 v:=λb=>by
  obtain⟨a,c,i,j⟩:=h.v b;refine⟨a,c,i,λx c=>?_⟩;obtain⟨p,q,i,k,l,m,a⟩:=j x c;exact⟨p,q,i,k,l,m,a.ah,a.up,by rw[d x c];exact a.v⟩
 r:=λb=>by
  obtain⟨a,c,d,j⟩:=h.r b;exact⟨a,c,d,λi a=>by rw[e i a];exact j i a⟩
 c:=λb=>by
  obtain⟨c,d,e,j⟩:=h.c b;exact⟨c,d,e,λi a=>by rw[f i a];exact j i a⟩
 m:=h.m
 row:=λi a=>(h.row i a).congr λk b=>g i k a b
 inj:=h.inj
 ge:=h.ge
theorem pG.set{b k:Nat}{f:Nat->Nat}(h:pG H b k f){i v:Nat}(c:i<k){ch:List Value}(c:H.get b=some (.cells ch (.n 1))):pG (H.put b (.cells (ch.set i (.int .i64 (v:Int))) (.n 1))) b k λj=>if j=i then v else f j:=by
 obtain⟨_,a,b,d⟩:=h;rw[c]at a;cases a;refine⟨_,bO,by rw[tl];exact b,λj f=>?_⟩;by_cases e:j=i
 ·subst e;rw[List.getElem?_set,aL rfl,aL (by omega)];simp
 ·rw[uA (h:=e),d j f];simp[e]
theorem cT.aa0(h:cT P aW H aj lc bJ T)(g:bl pm H){i v:Nat}(e:i<P.m){ch:List Value}(d:H.get (aj 2)=some (.cells ch (.n 1))):
 aC pm aW H (H.put (aj 2) (.cells (ch.set i (.int .i64 (v:Int))) (.n 1)))/\cT P aW (H.put (aj 2) (.cells (ch.set i (.int .i64 (v:Int))) (.n 1))) aj lc bJ {T with rows:=λj=>if j=i then v else T.rows j}:=by
 have b:aC pm aW H (H.put (aj 2) (.cells (ch.set i (.int .i64 (v:Int))) (.n 1))):=aC.put (.refl g) (h.ge _ (by omega)) d (by simp) _;have ne:∀j,j<5+P.m->j≠2->aj j≠aj 2:=λj c a=>h.ne c (by omega) a;exact⟨b,gw (ne 0 (by omega) (by omega)) _ h.t,λa=>(h.v a).ext b (gw (ne 1 (by omega) (by omega))),λa=>(h.r a).set e d,λa=>(h.c a).ext (gw (ne 3 (by omega) (by omega))),λa=>(h.m a).ext (gw (ne 4 (by omega) (by omega))),λj c=>(h.row j c).ext b (gw (ne _ (by omega) (by omega))),h.inj,h.ge⟩
theorem cT.kq(h:cT P aW H aj lc bJ T)(g:bl pm H){i v:Nat}(f:i<P.n){ch:List Value}(e:H.get (aj 3)=some (.cells ch (.n 1))):
 aC pm aW H (H.put (aj 3) (.cells (ch.set i (.int .i64 (v:Int))) (.n 1)))/\cT P aW (H.put (aj 3) (.cells (ch.set i (.int .i64 (v:Int))) (.n 1))) aj lc bJ {T with a:=λj=>if j=i then v else T.a j}:=by
 have c:aC pm aW H (H.put (aj 3) (.cells (ch.set i (.int .i64 (v:Int))) (.n 1))):=aC.put (.refl g) (h.ge _ (by omega)) e (by simp) _;have ne:∀j,j<5+P.m->j≠3->aj j≠aj 3:=λj d b=>h.ne d (by omega) b;exact⟨c,gw (ne 0 (by omega) (by omega)) _ h.t,λb=>(h.v b).ext c (gw (ne 1 (by omega) (by omega))),λb=>(h.r b).ext (gw (ne 2 (by omega) (by omega))),λb=>(h.c b).set f e,λb=>(h.m b).ext (gw (ne 4 (by omega) (by omega))),λj d=>(h.row j d).ext c (gw (ne _ (by omega) (by omega))),h.inj,h.ge⟩
end
structure js(P:bM)(T:bu)(t:Nat):Prop where
 v:∀x,x<P.n+P.m->Bf P T.v x t
 M:∀i k,i<P.m->k<P.n->aV (T.M i k) t
structure oj(P:bM):Prop where
 n:P.n<=20
 m:P.m<=40
section
variable{P:bM}{aW:Nat}{aj:Nat->Nat}{lc bJ:Value}{T:bu}
theorem qA(b k:Nat):∃a,aZ b k=.slice a k k/\(0<k->a=some ⟨b,0,none⟩):=by
 by_cases h:k=0
 ·subst h;exact⟨none,rfl,λh=>by omega⟩
 ·exact⟨_,dA (by omega),λ_=>rfl⟩
theorem QF(h:dT P T){ad:Nat}(a:ad<P.n){q:Rat}{i:Nat}(b:i<P.m):hb T ad q i (T.rows i)=T.v (T.rows i):=by
 rw[HK h a b i (by omega),aw (by omega)]
theorem QI(j:fC X)(c:bl pm ai)(N:pm.ah<=aW)(O:aW<=ai.next)(Q:oj P)(aP:cT P aW ai aj lc bJ T)(p:dT P T){t:Nat}(g:t<=100000)(r:js P T t){ad:Nat}(d:ad<P.n){w:Value}{q:Rat}(R:b4 ai w q)(C:aV q t):
 Call X pm F.qL [.pointer (some ⟨aj 0,0,none⟩),.int .i64 (ad:Int),w] ai λ_ ab=>aC pm aW ai ab/\cT P aW ab aj lc bJ (T.gR P ad q):=by
 refine Call.W j.qL rfl λ_ hQ=>?_;have ar:=Q.n;have ar:=Q.m;have s:0<P.n+P.m:=by omega
 obtain⟨aq,u,_,Q⟩:=aP.v s;obtain⟨_,S,_,c3⟩:=aP.c (by omega);have y:=p.c ad d;obtain⟨_,_,ak,_,_,e3,e4⟩:=Q _ y;have an:=c3 ad d;have z:=aP.t;rw[dA s,dA (show 0<P.n by omega)]at z;have ao:∀Q i,i<5+P.m->Perm.may ⟨pm.ah,pm.ok,Q⟩ (aj i)=true:=λQ i b=>ej (a8 N (aP.ge i b));have Q:T.a ad<1000:=by omega
 simp[-K5];refine cx.of c.ah rfl ?_;have Q:=c.lt z;have ar:=c.lt u;have ar:=c.lt S;simp[b8,c.none,c.O,z,u,S,d,an,y,b3,bZ,Q, ar,  -Ei];have z:K pm ai (ai.up 13):=(K.refl c).up 13;simp[e3,-Ei];have Q:=(r.v _ y).v;refine al.of (aq:=[ak,w]) (n8 j.toEL z.q (e4.v.up z).of (R.up z).of (Q.bo (a8 g (by decide))) (C.bo (a8 g (by decide)))) ?_;rintro _ U ⟨Q,V⟩;have k:=z.trans Q;have z:=k.q;obtain⟨W,t2⟩:=(aP.k c k).SX z y V (k.some c u);have au:=k.some c u;obtain⟨Y,rfl,_⟩:=id V;have av:=ao pm.num 1 (by omega);have ax:T.a ad*3+2<aq.length:=by omega
 have c:hb T ad q 0=λy=>if y=T.a ad then T.v (T.a ad)+q else T.v y:=by
  funext x;show(if x=T.a ad then T.v x+q else T.v x)=_;by_cases e:x=T.a ad
  ·simp[e]
  ·simp[e]
 have D:cT P aW (U.put (aj 1) (.cells (aq.set (T.a ad*3+2) (.pointer (some ⟨Y,0,none⟩))) (.n 3))) aj lc bJ {T with v:=hb T ad q 0}:=by rw[c];exact t2
 obtain⟨E,Z⟩:∃E,E=U.put (aj 1) (.cells (aq.set (T.a ad*3+2) (.pointer (some ⟨Y,0,none⟩))) (.n 3)):=⟨_,rfl⟩;rw[<-Z]at W D;have u:aC pm aW ai E:=(k.mono O).trans W;have c:=D.t;obtain⟨k,y,ay⟩:=qA (aj 4) P.m;rw[y]at c;simp[au,av,ax,<-Z,c,-K4]
 refine er (σ:=Unit) P.m (λ_ _=>[(0,.pointer (some ⟨aj 0,0,none⟩)),(1,.int .i64 (ad:Int)),(2,w),(34,.slice k P.m P.m)])
  (λi _ ab=>aC pm aW ai ab/\cT P aW ab aj lc bJ {T with v:=hb T ad q i}) () (by simp) ⟨u,D⟩ ?_ ?_
 ·rintro i _ l b ⟨m,f⟩;have a:=m.q;obtain rfl:=ay (by omega);obtain⟨_,c,_,k⟩:=f.m (by omega);obtain⟨_,F,_,u⟩:=f.row i b;obtain⟨X,aa,G⟩:=u ad d;have u:=k i b;simp[c,u,b,F,aa,d];refine al.of (aq:=[X]) (hA j.toEL a G.of ((r.M i ad b d).bo (a8 g (by decide)))) ?_;rintro _ l ⟨rfl,rfl⟩;by_cases H:T.M i ad=0
  ·simp[jh,H];refine⟨m,f.congr (λx _=>?_) (λ_ _=>rfl) (λ_ _=>rfl) λ_ _ _ _=>rfl⟩;show(if x=T.rows i then hb T ad q i x+T.M i ad*q else hb T ad q i x)=hb T ad q i x;rw[H];split<;>grind
  ·obtain⟨ai,A,_,c⟩:=f.v s;obtain⟨_,r1,_,k⟩:=f.r (by omega);have B:=p.r i b;obtain⟨_,_,pv,_,_,f3,u⟩:=c _ B;have I:=f.t;rw[dA s,dA (show 0<P.m by omega)]at I;have aj:=k i b;have q0:=a.lt I;have c:=a.lt A;have q2:=a.lt r1;have c:=a.lt F;have fv:b4 l pv (T.v (T.rows i)):=by
    have:=u.v;rwa [show({T with v:=hb T ad q i}:bu).v (T.rows i)=hb T ad q i (T.rows i) from rfl,QF p d b]at this
   simp[jh,H,-Eh];refine cx.of a.ah rfl ?_;simp[b8,a.none,a.O,I, r1,b,aj,B,b3,bZ,q0, q2,  -Eh];have n:K pm l (l.up 13):=(K.refl a).up 13;generalize l.up 13=P at n|-;have e:=n.q;have ab:=n.some a A;have ae:=n.some a F;have al:=e.lt ab;have az:=e.lt ae;refine cx.of e.ah rfl ?_;have c:K pm P (P.up 15):=(K.refl e).up 15;have h:=n.trans c;have v:t<=gZ:=a8 g (by decide);have aA:t+t<=gZ:=a8 (Nat.add_le_add g g) (by decide);simp[b8,e.none,e.O,ab,f3,ae,aa,d];have af:=(R.up m).up h;have ag:=r.M i ad b d;refine cY c.q (aq:=[X,w]) (by simp[e.none]) rfl (λaB J=>og j.toEL J (G.up h).of af.of (ag.bo v) (C.bo v)) ?_;rintro c _ o f6;have g:=o.res e;simp;refine fG o.q (aq:=[pv,c]) (by simp[g]) rfl (λaB J=>n8 j.toEL J ((fv.up h).up o).of f6.of ((r.v _ B).v.bo v) ((jk ag C).bo aA)) ?_;rintro _ _ L f7;have x2:=(K.trans o L).res e;have M:=h.trans (o.trans L);have ah:=M.some a A;obtain⟨_,rfl,_⟩:=id f7;have c:=λe=>kI (G.up h) af (h.some a A) e;simp[x2,ah,ej (a8 N (aP.ge 1 (by omega))),show T.rows i*3+2<ai.length by omega,b3,bZ,al,az, cU,c];obtain⟨c,e⟩:=(f.k a M).SX L.q B f7 ah;refine⟨(m.k M (a8 O m.next)).trans c,e.congr (λx _=>?_) (λ_ _=>rfl) (λ_ _=>rfl) λ_ _ _ _=>rfl⟩;show(if x=T.rows i then hb T ad q i x+T.M i ad*q else hb T ad q i x)=if x=T.rows i then T.v (T.rows i)+T.M i ad*q else hb T ad q i x
   by_cases e:x=T.rows i
   ·rw[aL e,aL e,e,QF p d b]
   ·rw[aw e,aw e]
 ·rintro _ _ ⟨a,b⟩;simp;refine hQ _ _ _ ?_;simp;exact⟨a,b⟩
end
section
variable{P:bM}{aW:Nat}{aj:Nat->Nat}{lc bJ:Value}{T:bu}
def n5(T:bu)(i k:Nat)(r:Nat->Rat):bu:={T with M:=λx y=>if x=i/\y<k then r y else T.M x y}
theorem Ac{i k:Nat}{r:Nat->Rat}{q:Rat}(h:q=r k)(x y:Nat):(n5 T i (k+1) r).M x y=if x=i/\y=k then q else(n5 T i k r).M x y:=by
 subst h;show(if x=i/\y<k+1 then r y else T.M x y)=if x=i/\y=k then r k else(if x=i/\y<k then r y else T.M x y)
 by_cases e:x=i
 ·by_cases a:y=k
  ·subst a;simp[e]
  ·by_cases b:y<k
   ·simp[e,a,b,show y<k+1 by omega]
   ·simp[e,a,b,show ¬y<k+1 by omega]
 ·simp[e]
theorem Sp{i k:Nat}{r:Nat->Rat}(h:T.M i k=r k)(x y:Nat):(n5 T i (k+1) r).M x y=(n5 T i k r).M x y:=by
 rw[Ac rfl];split
 ·rename_i e;obtain⟨rfl,rfl⟩:=e;show r y=if x=x/\y<y then r y else T.M x y
  simp[h]
 ·rfl
theorem So{i k:Nat}{r:Nat->Rat}:(n5 T i k r).M i k=T.M i k:=by
 show(if i=i/\k<k then r k else T.M i k)=_;simp
def qY(T:bu)(a ad i k:Nat):Rat:=if k=ad then T.M i ad*T.M a ad else T.M i k+T.M i ad*T.M a k
theorem aaa(n:fC X)(M:bl pm ai)(C:pm.ah<=aW)(D:aW<=ai.next)(E:oj P)(aP:cT P aW ai aj lc bJ T){t:Nat}(q:t<=400000)(r:∀i k,i<P.m->k<P.n->aV (T.M i k) t){a i ad:Nat}(aI:a<P.m)(g:i<P.m)(F:i≠a)(N:ad<P.n)
 {w:Value} (O:b4 ai w (T.M i ad)) {L:bn} {u64:Value} (R:aF 0 L=some (.pointer (some ⟨aj 0,0,none⟩))) (S:aF 1 L=some (.int .i64 (a:Int))) (U:aF 2 L=some (.int .i64 (ad:Int))) (V:aF 6 L=some (.slice (some ⟨aj (5+a),0,none⟩) P.n P.n)) (F:aF 10 L=some (.slice (some ⟨aj (5+i),0,none⟩) P.n P.n)) (W:aF 11 L=some w)
 (Y:aF 64 L=some u64) (Z:aF 65 L=some (.int .i64 (P.m:Int))) (aa:aF 66 L=some (.int .i64 (i:Int))) {Q:cl}
 (ae:∀aU ab,aC pm aW ai ab->cT P aW ab aj lc bJ (n5 T i P.n (qY T a ad i))->Sub [(66,.int .i64 (i:Int)),(65,.int .i64 (P.m:Int)),(0,.pointer (some ⟨aj 0,0,none⟩)),(1,.int .i64 (a:Int)),(2,.int .i64 (ad:Int)),(6,.slice (some ⟨aj (5+a),0,none⟩) P.n P.n),(64,u64)] aU->Q .normal aU ab):
 wp X pm (.code xX) L ai [] Q:=by
 have ah:=E.n;have ah:=E.m;have e:t<=gZ:=a8 q (by decide);have af:t+t<=gZ:=a8 (Nat.add_le_add q q) (by decide);have ag:=ej (ok:=pm.ok) (o:=pm.num) (a8 C (aP.ge (5+i) (by omega)));have q:=aP.ne (i:=5+i) (j:=5+a) (by omega) (by omega) (by omega);simp[F,-K6]
 refine er (σ:=Unit) P.n (λ_ _=>[(66,.int .i64 (i:Int)),(65,.int .i64 (P.m:Int)),(0,.pointer (some ⟨aj 0,0,none⟩)),(1,.int .i64 (a:Int)),(2,.int .i64 (ad:Int)),(6,.slice (some ⟨aj (5+a),0,none⟩) P.n P.n),(10,.slice (some ⟨aj (5+i),0,none⟩) P.n P.n),(11,w),(64,u64)])
  (λk _ ab=>aC pm aW ai ab/\cT P aW ab aj lc bJ (n5 T i k (qY T a ad i))) () (by simp[R,S,U,V,F,W,Y,Z,aa]) ⟨aC.refl M,aP.congr (λ_ _=>rfl) (λ_ _=>rfl) (λ_ _=>rfl) λ_ _ _ _=>by simp[n5]⟩ ?_ ?_
 ·rintro k _ s c ⟨d,h⟩;have b:=d.q;obtain⟨G,j,_,q⟩:=h.row i g;obtain⟨_,l,_,E⟩:=h.row a aI;obtain⟨L,P,H⟩:=q k c;obtain⟨t,u,f⟩:=E k c;rw[So]at H;have q:(n5 T i k (qY T a ad i)).M a k=T.M a k:=by
   show(if a=i/\k<k then _ else _)=_;rw[aw (by omega)]
  rw[q]at f;have o:=O.up d;have v:=r i ad g N;have p:=r a k aI c;have Q:=r i k g c;by_cases x:k=ad
  ·subst x;simp[l,u,c,-Li];refine al.of (aq:=[w,t]) (og n.toEL b o.of f.of (v.bo e) (p.bo e)) ?_;rintro _ _ ⟨a,i⟩;obtain⟨_,rfl,_⟩:=id i;have m:=a.some b j;obtain⟨q,r⟩:=(h.k b a).DI a.q g c i m;simp[m,c,ag,show k<G.length by omega];refine⟨(d.k a (a8 D d.next)).trans q,r.congr (λ_ _=>rfl) (λ_ _=>rfl) (λ_ _=>rfl) λa y _ _=>Ac (by simp[qY]) a y⟩
  ·have q:¬((k:Int)=(ad:Int)):=by omega
   simp[q,l,u,c,-Lj,-Lc];refine al.of (aq:=[t]) (hA n.toEL b f.of (p.bo e)) ?_;rintro _ s ⟨rfl,rfl⟩;by_cases y:T.M a k=0
   ·simp[jh,y];refine⟨d,h.congr (λ_ _=>rfl) (λ_ _=>rfl) (λ_ _=>rfl) λa i _ _=>Sp ?_ a i⟩;rw[qY,aw x,y];grind
   ·have T:=b.lt j;have X:=b.lt l;simp[jh,y];refine cx.of b.ah rfl ?_;have a:K pm s (s.up 15):=(K.refl b).up 15;simp[b8,b.none,b.O,j,P,l,u,c];have d1:=λq=>kI (o.up a) (f.up a) (a.some b j) q;have r:=λq=>kI (o.up a) (f.up a) (a.some b l) q;refine cY a.q (aq:=[w,t]) (by simp[b.none]) rfl (λab z=>og n.toEL z (o.up a).of (f.up a).of (v.bo e) (p.bo e)) ?_;rintro f _ m f6;have l:=m.res b;simp;refine fG m.q (aq:=[L,f]) (by simp[l]) rfl (λab z=>n8 n.toEL z ((H.up a).up m).of f6.of (Q.bo e) ((jk v p).bo af)) ?_;rintro _ _ A I;have x2:=(K.trans m A).res b;have B:=a.trans (m.trans A);have J:=B.some b j;obtain⟨_,rfl,_⟩:=id I;simp[x2,J,c,ej (a8 C (aP.ge (5+i) (by omega))),show k<G.length by omega,b3,bZ,T,X, cU,d1,];obtain⟨a,e⟩:=(h.k b B).DI A.q g c I J;refine⟨(d.k B (a8 D d.next)).trans a,e.congr (λ_ _=>rfl) (λ_ _=>rfl) (λ_ _=>rfl) λa y _ _=>Ac (by simp[qY,x]) a y⟩
 ·rintro _ _ ⟨a,b⟩;simp;exact ae _ _ a b (by simp)
end
end Go.Dam.C
