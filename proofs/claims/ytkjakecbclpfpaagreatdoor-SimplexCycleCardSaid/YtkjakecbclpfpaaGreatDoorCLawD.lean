/- What the functions of the program compute, for every input. -/
import Derived.Test.YtkjakecbclpfpaaGreatDoorCLawC
import Derived.Test.YtkjakecbclpfpaaGreatDoorCLawB
import Derived.Deep.Slices
import Derived.SliceStrings
namespace Go.Dam.C
open Go Go.Dam
variable{X:aA}{pm:Perm}{H ab bX ai:ae}{n:Nat}
theorem fB.at{v:Value}{k n:Nat}(h:fB H v k n)(d:∀z c,v=.slice (some ⟨z,0,none⟩) k c->∀y,H.get z=some y->ab.get z=some y):fB ab v k n:=by
 obtain⟨b,a,rfl,c,e⟩:=h.row;exact⟨h.kS,b,a,rfl,c,e.imp id λ⟨b,y,e,c,f,g⟩=>⟨b,y,e,c,d b a (by rw[c]) y f,g⟩⟩
theorem F3(g:bl pm H){h:Option Addr}{k cap n d:Nat}(j:nC H h k n)(av:k<1000000):
 ∃z ab,(fz 1 (.slice h k cap) λnew m=>fj 1 8 (.slice (some ⟨H.next,0,none⟩) 1 1) new m).run pm (H.new (.cells [.int .i64 (d:Int)] (.n 1)))=some (.slice (some ⟨z,0,none⟩) (k+1) (k+1),ab)/\K pm H ab/\H.next<=z/\
  ab.get z=some (.cells (dZ (λi=>if i=0 then(d:Int) else rg n (i-1)) (k+1)) (.n 1)):=by
 have a:=K.new g (.cells [.int .i64 (d:Int)] (.n 1));have l:=a.q;have o:(H.new (.cells [.int .i64 (d:Int)] (.n 1))).get H.next=some (.cells [.int .i64 (d:Int)] (.n 1)):=cc;have p:∀k:Nat,dZ (λi=>if i=0 then(d:Int) else rg n (i-1)) (k+1)=.int .i64 (d:Int)::dZ (λi=>(rg n i:Int)) k:=λk=>by
  unfold dZ;rw[List.range_succ_eq_map,zQ,List.map_map];rfl
 by_cases c:k=0
 ·subst c;refine⟨H.next,_,?_,a,bc _,by rw[p];exact o⟩;unfold fz fj
  rcases j with⟨rfl,_⟩ | ⟨x,y,row,rfl,g1,g2,_⟩
  ·simp
  ·simp[a.some g g1,g2,bB]
 ·obtain⟨_,y,row,rfl,m,q,h⟩:=j.get c;have r:=FA (f:=λi=>(rg n i:Int)) h (FK (f:=λi=>.int .i64 (rg n i:Int)) h);obtain⟨b,e⟩:∃A,A=(H.new (.cells [.int .i64 (d:Int)] (.n 1))).put H.next .dead:=⟨_,rfl⟩;have h:K pm H b:=by rw[e];exact aC.put a (bc _) o (by simp) _
  have f:b.next=H.next+1:=by rw[e];rfl
  refine⟨b.next,b.new (.cells (.int .i64 (d:Int)::dZ (λi=>(rg n i:Int)) k) (.n 1)),?_,aC.new h (by omega) _,by omega,by rw[p];exact cc⟩;have b:pm.may H.next=true:=g.may (bc _);unfold fz;simp only[bf.run,a.some g m,q,Nat.mul_one,r];unfold fj;simp[FC,c, show(k+1)*8<=17179869184 by omega,show k<=17179869183 by omega,b,<-e,Nat.add_comm 1 k,l.make,l.pick,bB,]
section
variable{kf dv b ρ:Nat}{w r v0 v6 xZ:Value}
theorem GJ(m:NE X)(g:bl pm H)(n:fB H w kf b)(t:fB H r dv ρ)(j:kf<90000)(j:dv<900000)(b7:b<=ρ)(cH:ρ<b*10000){l:bn}{aD:List Fr}{R:cl}
 (aY:Sub [(0,v0),(1,w),(6,v6),(7,r),(8,xZ),(9,.int .i64 1),(10,.int .i64 10000)] l)
 (u:∀aU ab (low:Nat),Sub [(0,v0),(1,w),(6,v6),(7,r),(8,xZ),(9,.int .i64 (low:Int))] aU->K pm H ab->1<=low->low<10000->b*low<=ρ->ρ<b*(low+1)->wp X pm (.code s4) aU ab aD R):
 wp X pm (.code uT) l H aD R:=by
 simp[-yF,-s4];refine fh.of (σ:=Nat×Nat) (λs=>[(0,v0),(1,w),(6,v6),(7,r),(8,xZ),(9,.int .i64 (s.1:Int)),(10,.int .i64 (s.2:Int))]) (λs ab=>K pm H ab/\s.1<s.2/\1<=s.1/\s.2<=10000/\b*s.1<=ρ/\ρ<b*s.2) (λs=>s.2-s.1) (1,10000) (by simpa using aY) ⟨K.refl g,by decide,by decide,by decide,by simpa using b7,cH⟩ ?_;rintro⟨low,c⟩ d ⟨e,j,f,o,h,i⟩;simp only at j f o h i|-;obtain⟨D,_⟩:∃D,D=c-low:=⟨_,rfl⟩;have p:wr .i64 ((c:Int)-(low:Int))=(D:Int):=by rw[cE];omega
 by_cases q:1<D
 ·obtain⟨S,_⟩:∃S,S=low+c:=⟨_,rfl⟩;obtain⟨a,_⟩:∃j,j=S/2:=⟨_,rfl⟩;have v:wr .i64 ((low:Int)+(c:Int))=(S:Int):=by rw[cE];omega
  have x:wr .i64 ((S:Int)/2)=(a:Int):=by rw[cE];omega
  have j:=e.q;have y:(d.new (.cells [.int .i64 (a:Int)] (.n 1))).get d.next=some (.cells [.int .i64 (a:Int)] (.n 1)):=cc;have l:=K.new j (.cells [.int .i64 (a:Int)] (.n 1));have s:=K.trans e l;simp[p,q,v,x,j.make,j.pick,fill,setCells,-AO];refine al.of (aq:=[w,.slice (some ⟨d.next,0,none⟩) 1 1]) (Fw m l.q (n.ext (s.ext g)) (fB.one y (by omega) (by omega)) (by omega) (by omega)) ?_;rintro j l ⟨v,x,d,_⟩;have y:x<=kf+1:=d.kS.le (by
   rw[eB];exact Nat.mul_lt_mul'' n.kS.1 (by omega))
  have k:=K.trans s v;simp[-Ak];refine al.of (aq:=[j,r]) (yC m d (t.ext (k.ext g)) (by omega) (by omega)) ?_;rintro _ l ⟨rfl,rfl⟩;by_cases d:ρ<b*a
  ·simp[d];refine kt.of (low,a) ?_ (by simp) ⟨k,by show low<a;omega,f,by show a<=10000;omega,h,d⟩;show a-low<c-low;omega
  ·simp[d];refine kt.of (a,c) ?_ (by simp) ⟨k,by show a<c;omega,by show 1<=a;omega,o,by show b*a<=ρ;omega,i⟩;show c-a<c-low;omega
 ·have a:c=low+1:=by omega
  simp[p,q,-s4];refine u _ _ low ?_ e f (by omega) h (a▸i);simp
end
def FY(pm:Perm)(H:ae)(p c a b:Nat)(s:Nat×Value)(ab:ae):Prop:=K pm H ab/\p<ab.next/\s.1<=c/\∃f d,ab.get p=some (.cells (dZ f c) (.n 1))/\(∀j,j<s.1->f j=0)/\(∀j,j<c->0<=f j/\f j<10000)/\rs f c=((a/10000^s.1/b*10000^s.1:Nat):Int)/\fB ab s.2 d (a/10000^s.1%b)
theorem yD(k:NE X)(g:bl pm H){v w:Value}{e o a b:Nat}(R:fB H v e a)(q:fB H w o b)(aI:e<90000)(hb:o<90000)(S:0<b):
 Call X pm F.oO [v,w] H λr ab=>K pm H ab/\∃T U I k2,r=.tuple #[T,U]/\fB ab T I (a/b)/\fB ab U k2 (a%b):=by
 refine Call.W k.oO rfl λ_ hQ=>?_;have V:=R.kS;obtain⟨W,Y,rfl,_,h1⟩:=R.row;have J:=nO (pm:=pm) (H:=H) g.tock (Ut:=H) (z:=[.int .i64 0]) (bytes:=8) (c:=e);rw[En]at J;obtain⟨p,L⟩:∃p,p=H.next:=⟨_,rfl⟩;obtain⟨x,y⟩:∃M,M=H.new (.cells (dZ (λ_=>0) e) (.n 1)):=⟨_,rfl⟩;have I:K pm H x:=by rw[y];exact K.new g _
 have R:x.get p=some (.cells (dZ (λ_=>0) e) (.n 1)):=by rw[y,L];exact cc
 have T:x.next=p+1:=by rw[y,L];rfl
 simp only[List.length_singleton,<-L,<-y]at J;have af:pm.may p=true:=g.may (by omega);have y:wr .i64 ((e:Int)-1)=(e:Int)-1:=cE;simp[y,J,-yG,-yU]
 refine fh.of (σ:=Nat×Value) (λs=>[(0,.slice W e Y),(1,w),(6,.slice (some ⟨p,0,none⟩) e e),(7,s.2),(8,.int .i64 ((s.1:Int)-1))])
  (FY pm H p e a b) (λs=>s.1) (e,.slice none 0 0) (by simp) ⟨I,by omega,bc _,_,0,R,λ_ _=>rfl,λ_ _=>by decide,?_,?_⟩ ?_
 ·show rs (λ_=>0) e=((a/10000^e/b*10000^e:Nat):Int);rw[u4 V.1,ui (Nat.zero_le e) λ_ _ _=>rfl];simp[rs]
 ·show fB x (.slice none 0 0) 0 (a/10000^e%b);rw[u4 V.1,Nat.zero_mod];exact .nil
 rintro⟨s,r⟩ HA ⟨A,_,x,f,l,Z,B,O,C,t⟩;simp only at x B C t|-;have D:=A.q;have x:l<=o:=t.kS.le (Nat.lt_trans (o1 _ S) q.kS.1)
 cases s with
 | zero=>
   simp;refine al.of (aq:=[.slice (some ⟨p,0,none⟩) e e]) (wo k (N:=a/b) Z (by omega) O (by simpa using C)) ?_;rintro u HA ⟨rfl,c,_,d⟩;simp;refine hQ _ _ _ ?_;simp;exact⟨A,u,r,⟨rfl,rfl⟩,⟨c,d⟩,l,by simpa using t⟩
 | succ j=>
   obtain⟨_,cr,rfl,_,ag⟩:=t.row;obtain⟨ah,ai,_,rfl,s,d2,d3⟩:=h1.get (by omega);have aj:=A.some g s;have r:j<e:=by omega
   have X:wr .i64 ((j:Int)-1)=(j:Int)-1:=cE;obtain⟨z,HB,e3,P,_,gB⟩:=F3 D (cap:=cr) (d:=rg a j) ag (by omega);have E:=K.trans A P;have Q:=E.q;have pB:=P.some D Z;obtain⟨ρ,h⟩:∃s,s=a/10000^(j+1)%b:=⟨_,rfl⟩;rw[<-h]at gB;have s:=FN (g:=λi=>(rg ρ i:Int)) (d:=(rg a j:Int)) l;have x:rs (λi=>if i=0 then(rg a j:Int) else rg ρ (i-1)) (l+1)=((rg a j+10000*ρ:Nat):Int):=by
    rw[s,Fp,n1 (by have:=t.kS.1;rwa [h])];simp
   have aa:=Fm a j;simp[r,aj,d2,d3 j r,D.make,D.pick,fill,setCells,e3,-fz,-zi,-sl];refine al.of (aq:=[.slice (some ⟨z,0,none⟩) (l+1) (l+1)]) (wo k (N:=rg a j+10000*ρ) gB (by omega) (λi _=>?_) x) ?_
   ·have b:=@kY a j;have b:=@kY ρ (i-1);show 0<=(if i=0 then(rg a j:Int) else rg ρ (i-1))/\(if i=0 then(rg a j:Int) else rg ρ (i-1))<10000;split<;>omega
   rintro u HB ⟨rfl,F,ak,v⟩;have ab:=q.ext (E.ext g);have l:ρ<b:=by rw[h];exact o1 _ S
   have ad:rg a j+10000*ρ<b*10000:=by have:=@kY a j;omega
   have l:F<=o+1:=v.kS.le (by
    rw[eB];exact fK ad (fV _ (I5 q.kS.1)))
   simp[-zj,-yV,-sl];refine al.of (aq:=[u,w]) (yC k v ab (by omega) (by omega)) ?_;rintro _ HB ⟨rfl,rfl⟩;by_cases l:rg a j+10000*ρ<b
   ·obtain⟨c,d⟩:=Gs aa (n:=b) (by rw[<-h];exact l);simp[l,X];refine kt.of (j,u) (qq j) (by simp) ⟨E,by have:=P.next;omega,by show j<=e;omega,f,F,pB,λi g=>B i (by have:i<j:=g;omega),O,?_,?_⟩
    ·show rs f e=((a/10000^j/b*10000^j:Nat):Int);rw[C,c,eB];congr 1;ac_rfl
    ·show fB _ u F (a/10000^j%b);rw[d,<-h];exact v
   ·simp[l,-uT,-sl];refine GJ (v0:=.slice (some ⟨ah,0,none⟩) e Y) (v6:=.slice (some ⟨p,0,none⟩) e e) (xZ:=.int .i64 (j:Int)) k Q ab v hb (by omega) (by omega) ad (by simp) ?_;intro _ s low l z W b2 b3 t;simp at l;obtain⟨l0,l1,l6,l7,l8,l9⟩:=l;obtain⟨t1,t2⟩:=Gr aa (n:=b) (low:=low) (by rw[<-h];exact b3) (by rw[<-h];exact t);have l:=z.q;have pC:=z.some Q pB;have an:=K.trans E z;have ao:setCells (dZ f e) j [.int .i64 (low:Int)]=some (dZ (cS f j low) e):=q3 r;obtain⟨m,G⟩:∃M,M=s.put p (.cells (dZ (cS f j low) e) (.n 1)):=⟨_,rfl⟩;have N:K pm H m:=by rw[G];exact aC.put an (by omega) pC (by simp) _
    have d:=N.q;have pD:m.get p=some (.cells (dZ (cS f j low) e) (.n 1)):=by rw[G];exact bO
    have ar:fB m u F (rg a j+10000*ρ):=(v.ext (z.ext Q)).at λ_ c n ai hy=>by
     rw[ak]at n;cases n;rw[G,a6 (by omega)];exact hy
    have p:=q.ext (N.ext g);have s:(m.new (.cells [.int .i64 (low:Int)] (.n 1))).get m.next=some (.cells [.int .i64 (low:Int)] (.n 1)):=cc;have l:=K.new d (.cells [.int .i64 (low:Int)] (.n 1));have t:setCells [.int .i64 0] 0 [.int .i64 (low:Int)]=some [.int .i64 (low:Int)]:=rfl;simp[l1,l6,l7,l8,l9,r,pC,ao,af,<-G,d.make,d.pick,fill,t,-setCells_one,-zX,-sl];refine al.of (a':=by simp) (aI:=by simp) (aq:=[w,.slice (some ⟨m.next,0,none⟩) 1 1]) (Fw k l.q (p.ext (l.ext d)) (fB.one s (by omega) (by omega)) (by omega) (by omega)) ?_;rintro t _ ⟨m,v,p,_⟩;have s:=K.trans l m;have l:v<=o+1:=p.kS.le (by
     rw[eB];exact Nat.mul_lt_mul'' q.kS.1 b2)
    simp[-zo,-sl];refine al.of (a':=by simp) (aI:=by simp) (aq:=[u,t]) (Hj k m.q (ar.ext (s.ext d)) p (by omega) (by omega) b3) ?_;rintro u' _ ⟨l,ae,au,_⟩;have k:=K.trans s l;simp[  l8,X];refine kt.of (j,u') (qq j) (by simp[l0,l1,l6]) ⟨K.trans N k,?_,by show j<=e;omega,cS f j low,ae,k.some d pD,λi H=>?_,λi H=>?_,?_,?_⟩
    ·have:=d.lt pD;have:=k.next;omega
    ·have H:i<j:=H;rw[iX (by omega)];exact B i (by omega)
    ·by_cases n:i=j
     ·subst n;rw[k0];omega
     ·rw[iX n];exact O i H
    ·show rs (cS f j low) e=((a/10000^j/b*10000^j:Nat):Int);rw[nh r,C,t1,B j (by omega),eB,rP];simp;grind
    ·show fB _ u' ae (a/10000^j%b);rw[t2,<-h];exact au
theorem G6(l:NE X)(g:bl pm H){v w:Value}{f h a b:Nat}(x:fB H v f a)(y:fB H w h b)(aI:f<90000)(z:h<90000):Call X pm F.ru [v,w] H λr ab=>K pm H ab/\∃k,fB ab r k (Nat.gcd a b):=by
 refine Call.W l.ru rfl λ_ A=>?_;simp[-AP,-AQ];refine fh.of (σ:=(Value×Value)×(Nat×Nat)) (λs=>[(0,s.1.1),(1,s.1.2)]) (λs ab=>K pm H ab/\(∃k,k<90000/\fB ab s.1.1 k s.2.1)/\(∃k,k<90000/\fB ab s.1.2 k s.2.2)/\Nat.gcd s.2.1 s.2.2=Nat.gcd a b) (λs=>s.2.2) ((v,w),(a,b)) (by simp) ⟨K.refl g,⟨f,aI,x⟩,⟨h,z,y⟩,rfl⟩ ?_;rintro⟨⟨B,_⟩,⟨m,n⟩⟩ _ ⟨i,⟨C,D,j⟩,⟨d,o,c⟩,e⟩;simp only at j c e|-;have p:=i.q;obtain⟨q,r,rfl,_,_⟩:=c.row;by_cases t:d=0
 ·subst t;obtain rfl:n=0:=c.kS.nE.1 rfl;simp;refine A _ _ _ ?_;simp;rw[Nat.gcd_zero_right]at e;exact⟨i,C,e▸j⟩
 ·have g:0<n:=qo λf=>t (c.kS.nE.2 f);simp[show 0<d by omega,-AR];refine al.of (aq:=[B,.slice q d r]) (yD l p j c D o g) ?_;rintro _ _ ⟨k,_,v,_,u,rfl,_,f⟩;have h:u<=d:=f.kS.le (Nat.lt_trans (o1 _ g) c.kS.1);simp;refine kt.of ((.slice q d r,v),(n,m%n)) ?_ (by simp) ⟨K.trans i k,⟨d,o,c.ext (k.ext p)⟩,⟨u,by omega,f⟩,?_⟩
  ·exact o1 _ g
  ·show Nat.gcd n (m%n)=Nat.gcd a b;rw[<-e,ql m n,Nat.gcd_rec n m,ql]
structure x4(X:aA):Prop extends NE X where
 rp:Has X F.rp C.rp
structure px(H:ae)(v:Value)(k:Nat)(neg:Bool)(n d:Nat):Prop where
 ex:∃FQ FP FE FD,v=.agg #[.bool neg,FQ,FP]/\fB H FQ FE n/\fB H FP FD d/\FE<=k/\FD<=k
 d:0<d
 s:neg=true->0<n
theorem px.ext{v:Value}{k n d:Nat}{neg:Bool}(h:px H v k neg n d)(e:Ext H ab):px ab v k neg n d:=by
 obtain⟨a,b,c,d,rfl,f,g,i,j⟩:=h.ex;exact⟨⟨a,b,c,d,rfl,f.ext e,g.ext e,i,j⟩,h.d,h.s⟩
theorem G5(y:x4 X)(g:bl pm H){f h:Value}{b n:Nat}{neg:Bool}(m:fB H f b n){w c:Nat}{i:Option Addr}(z:h=.slice i w c):
 Call X pm F.rp [.bool neg,f,h] H λr ab=>K pm H ab/\r=.agg #[.bool (neg&&!decide (n=0)),f,h]:=by
 refine Call.W y.rp rfl λ_ o=>?_;subst z;have f:=m.kS.nE;obtain⟨q,s,rfl,_,_⟩:=m.row;obtain⟨p,j⟩:∃p,p=H.next:=⟨_,rfl⟩;have t:pm.may p=true:=g.may (by omega);have u:(neg&&decide (0<b))=(neg&&!decide (n=0)):=by
  congr 1;rw[<-decide_not];exact decide_eq_decide.2 (by omega)
 obtain⟨k,d⟩:∃A,A=H.new (.cells [.bool false,.slice none 0 0,.slice none 0 0] (.t T.u3)):=⟨_,rfl⟩;have B:K pm H k:=by rw[d];exact K.new g _
 have l:k.get p=some (.cells [.bool false,.slice none 0 0,.slice none 0 0] (.t T.u3)):=by rw[d,j];exact cc
 obtain⟨v,a⟩:∃A,A=k.put p (.cells [.bool (neg&&!decide (n=0)),.slice q b s,.slice i w c] (.t T.u3)):=⟨_,rfl⟩;have x:K pm H v:=by rw[a];exact aC.put B (by omega) l (by simp) _
 have e:v.get p=some (.cells [.bool (neg&&!decide (n=0)),.slice q b s,.slice i w c] (.t T.u3)):=by rw[a];exact bO
 cases neg
 ·simp at a e;simp[g.make,g.pick,ptr,<-j,<-d,aR,l,fill,setCells,t,<-a];refine o _ _ _ ?_;simp[ft,e,bB,bA];exact x
 ·simp at u a e;simp[g.make,g.pick,ptr,<-j,<-d,aR,l,fill,setCells,t,u,<-a];refine o _ _ _ ?_;simp[ft,e,bB,bA];exact x
theorem IN(k:Nat):bS (4*k)=10000^k:=(fQ _).trans (qm 10 4 k)
theorem fB.len{u:Value}{k n:Nat}(h:fB H u k n)(a:n<bS 2000):k<=500:=h.kS.le (by rw[<-IN 500];exact a)
def l9(neg:Bool)(n:Nat):Int:=if neg=true then -(n:Int) else n
theorem fB.form{v:Value}{k n:Nat}(h:fB H v k n):∃b c,v=.slice b k c:=by
 obtain⟨b,c,e,_⟩:=h.row;exact⟨b,c,e⟩
theorem fB.Q{v:Value}{k K n:Nat}(h:fB H v k n)(av:k<=K):n<10000^K:=fK h.kS.1 (hX (by decide) av)
structure Fs(X:aA):Prop extends x4 X where
theorem Iw(q:Rat):l9 (decide (q<0)) q.num.natAbs=q.num:=by
 unfold l9;by_cases h:q<0
 ·have:=(zn q).1 h;simp[h];omega
 ·have:¬q.num<0:=λe=>h ((zn q).2 e);simp[h];omega
theorem hh.form{A:Nat->Prop}{k w:Nat}{v:Value}{P:Nat->List Value->Prop}(h:hh H A v k w P):∃a cap,v=.slice a k cap:=by
 obtain⟨a,cap,e,_⟩:=h;exact⟨a,cap,e⟩
theorem ou.imp{A iS:Nat->Prop}{a c:Nat}{v:Value}{l:List (Nat×List a1)}(h:ou H A a c v l)(e:∀b y,A b->H.get b=some y->iS b/\ab.get b=some y)(cA:∀L,H.get a=some (.cells L (.n 2))->ab.get a=some (.cells L (.n 2))):ou ab iS a c v l:=by
 rcases h with h | ⟨b,c,L,d,f,a⟩
 ·exact .inl h
 ·exact .inr ⟨b,c,L,cA _ d,f,λi b=>⟨(a i b).1,(a i b).2.imp λ_ q=>⟨q.1,q.2.imp e λ_ _ _ h=>h⟩⟩⟩
theorem gp.imp{A iS:Nat->Prop}{a:Nat}{v:Value}{l:List cz}(h:gp H A a v l)(e:∀b y,A b->H.get b=some y->iS b/\ab.get b=some y)(cA:∀L,H.get a=some (.cells L (.n 5))->ab.get a=some (.cells L (.n 5))):gp ab iS a v l:=by
 rcases h with h | ⟨a,L,b,f,c,d⟩
 ·exact .inl h
 ·exact .inr ⟨a,L,cA _ b,f,c,λi a=>(d i a).imp λ_ q=>⟨q.1,q.2.imp e⟩⟩
theorem Tt{l:List (Nat×List a1)}{k:Nat}{cs:List a1}{i:Nat}(a:i<(l++[(k,cs)]).length):(i<l.length/\∃h:i<l.length,(l++[(k,cs)])[i]=l[i])∨(i=l.length/\(l++[(k,cs)])[i]=(k,cs)):=by
 by_cases h:i<l.length
 ·exact .inl ⟨h,h,List.getElem_append_left h⟩
 ·have:i=l.length:=by simp at a;omega
  subst this;exact .inr ⟨rfl,by simp⟩
theorem ou.app{A:Nat->Prop}{a g c ah k:Nat}{fJ:List Nat}{t f:Value}{l:List (Nat×List a1)}{cs:List a1}(h:ou H A a g t l)(u:∀b,A b->b≠a/\b≠c)(z:a≠c)(v:Perm.may ⟨ah,fJ,some c⟩ a=true)(aY:l.length<1000000)(o:hh H A f cs.length 5 (gA cs))(p:H.get c=none):
 ∃i r B ab F M,(fj 2 32 t [.int .i64 (k:Int),f] 1).runT ⟨ah,fJ,some c⟩ H=some (i,ab,F,M)/\ou ab A r B i (l++[(k,cs)])/\(r=a∨r=c)/\(∀b,b≠a->b≠c->ab.get b=H.get b)/\(∀b y,b≠c->H.get b=some y->(∀L,y≠.cells L (.n 2))->ab.get b=some y)/\ab.next=H.next/\(∀x∈F,x=a)/\(∀{n:Nat} {ai:ae} {pm:Perm},aC pm n ai H->n<=a->n<=c->c<H.next->aC pm n ai ab)/\dd i=true/\i.cells=#[i]:=by
 obtain⟨_,_,i⟩:=o.form;have j:dd f=true:=by rw[i];rfl
 have d:(l.length+1)*32<=17179869184:=by omega
 have m:∀{ab:ae} {f:Value} {cs:List a1},(∀b,b≠a->b≠c->ab.get b=H.get b)->hh H A f cs.length 5 (gA cs)->hh ab A f cs.length 5 (gA cs):=λi h=>h.imp (λb y q e=>⟨q,by rw[i b (u b q).1 (u b q).2];exact e⟩) λ_ _ _ h=>h
 rcases h with⟨rfl,rfl,rfl⟩ | ⟨rfl,cH,L,cD,dS,gf⟩
 ·refine⟨.slice (some ⟨c,0,none⟩) 1 1,c,1,H.put c (.cells [.int .i64 (k:Int),f] (.n 2)),[],[c],?_,?_,.inr rfl,λb _ d=>a6 d,λb y d e _=>by rw[a6 d];exact e,rfl,by simp,λu _ h aY=>aC.fill u h p aY _,rfl,rfl⟩
  ·unfold fj;simp[Perm.make,Perm.pick,j]
  ·refine .inr ⟨rfl,bc _,_,bO,rfl,λk l=>?_⟩;obtain rfl:k=0:=by simp at l;omega
   exact⟨rfl,f,rfl,m (λb _ d=>a6 d) o⟩
 ·by_cases n:l.length+1<=g
  ·have x:∃s,setCells L (l.length*2) [.int .i64 (k:Int),f]=some s:=by
    unfold setCells;rw[cJ,hd (show l.length*2+[Value.int IntKind.i64 (k:Int),f].length<=L.length by simp;omega)];exact⟨_,rfl⟩
   obtain⟨s,w⟩:=x;obtain⟨_,_,h⟩:=vf w;refine⟨.slice (some ⟨a,0,none⟩) (l.length+1) g,a,g,H.put a (.cells s (.n 2)),[a],[a],?_,?_,.inl rfl,λb d _=>a6 d,λb y _ e i=>by
    have d:b≠a:=λk=>by
     rw[k,cD]at e;exact i L (jH e).symm
    rw[a6 d];exact e,rfl,by simp,λu i _ _=>aC.put u i cD (by simp) _,rfl,rfl⟩
   ·unfold fj;simp[n,putRow,cD,j,w,v]
   ·refine .inr ⟨by simp,by simpa using n,_,bO,by omega,λl k=>?_⟩
    rcases Tt k with⟨k,_,e⟩ | ⟨rfl,e⟩
    ·rw[e,h,aw (by omega),h,aw (by omega)];exact⟨(gf l k).1,(gf l k).2.imp λf q=>⟨q.1,m (λb d _=>a6 d) q.2⟩⟩
    ·rw[e,h,aL (by simp),h,aL (by simp)];exact⟨by simp,f,by simp,m (λb d _=>a6 d) o⟩
  ·have i:g=l.length:=by omega
   have s:bB L 0 (l.length*2)=some L:=by rw[show l.length*2=L.length by omega];exact G1 L
   have w:(H.put a .dead).get c=none:=by rw[a6 (Ne.symm z)];exact p
   have h:∀b,b≠a->b≠c->((H.put a .dead).put c (.cells (L++[.int .i64 (k:Int),f]) (.n 2))).get b=H.get b:=λb j cH=>by rw[a6 cH,a6 j]
   refine⟨.slice (some ⟨c,0,none⟩) (l.length+1) (l.length+1),c,l.length+1,(H.put a .dead).put c (.cells (L++[.int .i64 (k:Int),f]) (.n 2)),[a],[a,c],?_,?_,.inr rfl,h,λb y p e c=>by
    have d:b≠a:=λa=>by
     rw[a,cD]at e;exact c L (jH e).symm
    rw[h b d p];exact e,rfl,by simp,λu a c aY=>aC.fill (aC.put u a cD (by simp) .dead) c w aY _,rfl,rfl⟩
   ·unfold fj;simp[n,Perm.make,Perm.pick,j,cD,s,v,d,show l.length+1<=17179869184 by omega]
   ·refine .inr ⟨by simp,by simp,_,bO,by simp;omega,λk b=>?_⟩
    rcases Tt b with⟨b,_,e⟩ | ⟨rfl,e⟩
    ·rw[e,hY (by omega),hY (by omega)];exact⟨(gf k b).1,(gf k b).2.imp λf q=>⟨q.1,m h q.2⟩⟩
    ·rw[e,iq (by omega),iq (by omega),show l.length*2-L.length=0 by omega,show l.length*2+1-L.length=1 by omega];exact⟨rfl,f,rfl,m h o⟩
end Go.Dam.C
namespace Go.Dam.C
open Go Go.Dam
variable{X:aA}{pm:Perm}{H ab bX ai:ae}{n:Nat}
theorem ey.app{L xs:List Value}{w n:Nat}{f:Nat->List Value}(h:ey L w n f)(a:xs.length=w):ey (L++xs) w (n+1) λj=>if j=n then xs else f j:=by
 refine⟨by simp[h.1,a,j0],λj _=>?_⟩;by_cases e:j=n
 ·subst e;simp only[if_true];refine⟨a,λ_ _=>?_⟩;rw[iq (by rw[h.1];omega),h.1];congr 1;omega
 ·simp only[e,if_false];refine⟨(h.2 j (by omega)).1,λk a=>?_⟩;rw[hY (h.lt (by omega) a)];exact(h.2 j (by omega)).2 k a
structure eW(pm:Perm)(p aX aH e9 fE:Nat)(H ab:ae):Prop where
 q:bl pm ab
 next:H.next<=ab.next
 get:∀b,b<H.next->e7 p aX aH b->ab.get b=H.get b
 cf:∀b o,H.get b=some (.cf o)->ab.get b=some (.cf o)
 t:e9=aX∨H.next<=e9
 r:fE=aH∨H.next<=fE
variable{p aX aH cI e9 fE NH NF c3:Nat}{cL dF jS:Value}{deep:Bool}{s:bV}{cs:List a1}
theorem eW.GV(k:eW pm p aX aH e9 fE H ab){b:Nat}(a:b<H.next)(h:e7 p aX aH b):e7 p e9 fE b:=⟨h.1,by have:=k.t;have:=h.2.1;omega,by have:=k.r;have:=h.2.2;omega⟩
theorem eW.trans(k:eW pm p aX aH e9 fE H ab)(l:eW pm p e9 fE NH NF ab bX):eW pm p aX aH NH NF H bX:=
 ⟨l.q,a8 k.next l.next,λb a h=>(l.get b (fK a k.next) (k.GV a h)).trans (k.get b a h),λb o h=>l.cf b o (k.cf b o h),by
  have:=k.t;have:=l.t;have:=k.next;omega,by have:=k.r;have:=l.r;have:=k.next;omega⟩
theorem eW.some(k:eW pm p aX aH e9 fE H ab)(g:bl pm H){b:Nat}{y:bz}(h:e7 p aX aH b)(e:H.get b=Option.some y):ab.get b=Option.some y:=(k.get b (g.lt e) h).trans e
theorem eW.up(k:eW pm p aX aH e9 fE H ab)(b7:p<=aX)(cH:p<=aH)(a:p<H.next):aC pm p H ab:=⟨k.q,k.next,λb _=>k.get b (by omega) ⟨by omega,by omega,by omega⟩,k.cf⟩
end Go.Dam.C
namespace Go.Dam.C
open Go Go.Dam
variable{X:aA}{pm cu:Perm}{H ab bX ai:ae}{n p aX aH cI e9 fE c3:Nat}{cL dF jS:Value}{deep:Bool}{s:bV}{cs:List a1}
theorem eW.perm(k:eW pm p aX aH e9 fE H ab)(b7:cu.num=none)(cH:cu.ah<=ab.next):eW cu p aX aH e9 fE H ab:=⟨k.q.perm b7 cH,k.next,k.get,k.cf,k.t,k.r⟩
theorem fY.k(h:fY H p cL dF deep c3 s aX aH cI)(g:bl pm H)(k:K pm H ab):fY ab p cL dF deep c3 s aX aH cI:=by
 obtain⟨d,c,f,i,j,l,a,m,n,o,r⟩:=h;have e:∀b y,e7 p aX aH b->H.get b=some y->e7 p aX aH b/\ab.get b=some y:=λb y a e=>⟨a,k.some g e⟩;exact⟨d,⟨c.1.imp λ_ q=>k.some g q,c.2.imp λ_ q=>k.some g q⟩,f,i,j,l,k.some g a,m.imp e λL q=>k.some g q,n.imp (λb y a h=>⟨a,(e b y a.f h).2⟩) λL q=>k.some g q,o.imp (λb y a h=>⟨a,(e b y a.f h).2⟩),r.up k⟩
theorem fY.lt(h:fY H p cL dF deep c3 s aX aH cI)(g:bl pm H):p<H.next/\aX<H.next/\aH<H.next:=by
 obtain⟨_,⟨⟨_,a⟩,_,b⟩,_,_,_,_,c,_⟩:=h;exact⟨g.lt c,g.lt a,g.lt b⟩
theorem fY.new(h:fY H p cL dF deep c3 s aX aH cI)(g:bl pm H){aW k w:Nat}{v:Value}{P:Nat->List Value->Prop}(a:ds ab aW v k w P)(b:H.next<=aW):hh ab (e7 p aX aH) v k w P:=by
 obtain⟨_,_,_⟩:=h.lt g;exact a.p.imp (λ_ _ _ e=>⟨⟨by omega,by omega,by omega⟩,e⟩) λ_ _ _ h=>h
theorem gp.set{A:Nat->Prop}{v a:Value}{l:List cz}(h:gp H A aH v l){k:Nat}(av:k<l.length)(x:cz)(m:j8 H A a x.d)(j:∀b,A b->b≠aH):
 ∃L ea,v=.slice (some ⟨aH,0,none⟩) l.length l.length/\H.get aH=some (.cells L (.n 5))/\L.length=l.length*5/\setCells L (k*5) (x.cells a)=some ea/\gp (H.put aH (.cells ea (.n 5))) A aH v (l.set k x):=by
 rcases h with⟨_,e⟩ | ⟨rfl,L,cD,f,dS,gf⟩
 ·grind
 ·have h:=dS.1;have c:k*5+5<=l.length*5:=by omega
  have n:∃ea,setCells L (k*5) (x.cells a)=some ea:=by
   unfold setCells;rw[cJ,hd (show k*5+(x.cells a).length<=L.length by simp[cz.cells];omega)];exact⟨_,rfl⟩
  obtain⟨ea,d⟩:=n;obtain⟨_,_,o⟩:=vf d;have p:(x.cells a).length=5:=rfl;have g:∀b y,A b->H.get b=some y->A b/\(H.put aH (.cells ea (.n 5))).get b=some y:=λb y c e=>⟨c,by rw[a6 (j b c)];exact e⟩;refine⟨L,ea,rfl,cD,h,d,.inr ⟨by simp,ea,bO,λj=>if j=k then x.cells a else f j,⟨by simp;omega,λj c=>?_⟩,λi d=>?_⟩⟩
  ·have c:j<l.length:=by simpa using c
   by_cases e:j=k
   ·grind
   ·simp only[e,if_false];refine⟨(dS.2 j c).1,λq b=>?_⟩;rw[o,p,aw (by omega)];exact(dS.2 j c).2 q b
  ·have b:i<l.length:=by simpa using d
   by_cases e:i=k
   ·subst e;simp only[List.getElem_set_self,if_true];exact⟨a,rfl,m.imp g⟩
   ·simp only[List.getElem_set_ne (Ne.symm e),e,if_false];exact(gf i b).imp λa q=>⟨q.1,q.2.imp g⟩
theorem fY.node(h:fY H p cL dF deep c3 s aX aH cI)(g:bl pm H){k:Nat}(av:k<s.tree.length)(x:cz){b:Value}(f:j8 H (np p aX aH) b x.d):
 ∃L ea d i,H.get p=some (.cells (cL::dF::.bool deep::.int .i64 (c3:Int)::d::.slice (some ⟨aH,0,none⟩) s.tree.length s.tree.length::i) (.t h1))/\H.get aH=some (.cells L (.n 5))/\L.length=s.tree.length*5/\setCells L (k*5) (x.cells b)=some ea/\
  fY (H.put aH (.cells ea (.n 5))) p cL dF deep c3 {s with tree:=s.tree.set k x} aX aH cI/\eW pm p aX aH aX aH H (H.put aH (.cells ea (.n 5))):=by
 obtain⟨j,l,c,_,m,o,a,q,r,t,v⟩:=h;obtain⟨L,ea,rfl,d,i,w,z⟩:=r.set av x f λb a=>a.2.2;have r:p≠aH:=λe=>by grind
 have f:∀b y,e7 p aX aH b->H.get b=some y->e7 p aX aH b/\(H.put aH (.cells ea (.n 5))).get b=some y:=λb y a e=>⟨a,by rw[a6 a.2.2];exact e⟩;have u:=aC.put (n:=0) (.refl g) (Nat.zero_le _) d (by simp) (.cells ea (.n 5));refine⟨L,ea,c,_,a,d,i,w,⟨j,⟨?_,_,bO⟩,c,_,m,o,by rw[a6 r];simpa using a,q.imp f λ_ e=>?_,by simpa using z,t.imp (λb y a e=>⟨a,(f b y a.f e).2⟩),v.up u⟩,⟨u.q,u.next,λb _ h=>a6 h.2.2,u.cf,.inl rfl,.inl rfl⟩⟩
 ·by_cases e:aX=aH
  ·simp_all
  ·rw[a6 e];exact l.1
 ·by_cases a:aX=aH
  ·grind
  ·rw[a6 a];exact e
theorem getD_at{cs:List a1}{i:Nat}(a:i<cs.length):cs[i]? = some (cs.getD i bY):=by
 grind
end Go.Dam.C
namespace Go.Dam.C
open Go Go.Dam
variable{X:aA}{pm cu:Perm}{H ab bX ai:ae}{n:Nat}
theorem acf{aa:ar}{T:bu}(h:c5 aa)(b:hv aa.j (e6 aa) T):bI e0 (aa.P T.v):=by
 have c:=Q' h.e6 b.inv b.sR h.uY.v1 (λk d=>(b.at' k d).bI h.uY) h.uj.p h.uj.le h.uj.z;refine bI.mono (a:=aa.j.n*(hN aa.a.length*jP aa.j.n ((aa.j.n*hN aa.a.length)^aa.j.n) (mm aa.a.length) eC)+jP aa.j.n ((aa.j.n*hN aa.a.length)^aa.j.n) (mm aa.a.length) eC) c ?_;have b:=h.n;have c:hN aa.a.length<=bS 210:=by
  unfold hN;rw[show eC*eC^aa.a.length=eC^(aa.a.length+1) by rw[eB,eZ],zH,fQ];exact hX (by decide) (by omega)
 have d:jP aa.j.n ((aa.j.n*hN aa.a.length)^aa.j.n) (mm aa.a.length) eC<=bS 1660:=a8 (gj _ _) (M7 b);have e:hN aa.a.length*jP aa.j.n ((aa.j.n*hN aa.a.length)^aa.j.n) (mm aa.a.length) eC<=bS 1870:=by
  have:=gk c d;rwa [pn (show 210+1660=1870 by decide)]at this
 have c:aa.j.n*(hN aa.a.length*jP aa.j.n ((aa.j.n*hN aa.a.length)^aa.j.n) (mm aa.a.length) eC)<=6*bS 1870:=gk b e;have b:bS 1660<=bS 1870:=j4;have b:e0=bS 30*bS 1870:=(pn (show 30+1870=1900 by decide)).symm;have b:7<=bS 30:=a8 (show 7<=bS 1 by rw[fQ];decide) (j4);have c:=fV (bS 1870) b;grind
theorem DO{aa:ar}(h:c5 aa)(d:aa.I=true){a:cW}(b:fZ aa a)(b7:a.st=1):isNum a.val=true/\a.val.length<=10000:=by
 cases b with
 | inf _ _ _ _ _=>cases b7
 | cB _ _ _ _ _=>cases b7
 | opt T a _=>
   have b:=a.1.1;have c:∀j,j<aa.a.length->bI e0 (T.v j):=λj a=>me (b.ud h (by omega));have e:il aa T=(List.range aa.a.length).map λj=>bk (T.v j):=rfl;have f:gy aa (il aa T)=some (aa.P T.v):=by
    unfold gy;rw[e,aL (td d c),Ge λj a=>o9 a (c j a)]
   have a:=acf h b;show isNum (tK aa (il aa T))=true/\(tK aa (il aa T)).length<=10000;unfold tK;rw[f];exact⟨a.isNum,a.len⟩
theorem Tc{aa:ar}(h:c5 aa)(b:aa.I=true){a:cW}(c:fZ aa a)(b7:a.st=1):a.x.length=aa.a.length/\a.x.all isNum=true/\∀s∈a.x,s.length<=10000:=by
 obtain⟨a,_,_⟩:=c.R0 h b b7;unfold dJ at a;grind
variable{p aX aH cI e9 fE c3:Nat}{cL dF jS:Value}{deep:Bool}{s:bV}{cs:List a1}
end Go.Dam.C
namespace Go.Dam.C
open Go Go.Dam
section
variable{α:Type}{f:α->Option α}
theorem PA{a:α}(h:Ends f a):∃k b,fH f k a=some b/\f b=none:=by
 obtain⟨k,c,d⟩:=h.least
 cases k with
 | zero=>cases c
 | succ j=>
   have c:=d j (by omega)
   cases e:fH f j a with
   | none=>grind
   | some b=>
     refine⟨j,b,e,?_⟩
     cases a:f b with
     | none=>rfl
     | some _=>
       have:=Cm e a;grind
theorem He{G:α->Prop}(c:∀a b,G a->f a=some b->G b):∀{k:Nat} {a b:α},G a->fH f k a=some b->G b
 | 0,a,b,h,e=>by cases e;exact h
 | k+1,a,b,h,e=>by
   rw[fH]at e
   cases b:f a with
   | none=>grind
   | some d=>rw[b]at e;exact He c (c a d h b) e
end
theorem abo{aa:ar}(h:c5 aa)(j:aa.I=true):∃a,fZ aa a:=by
 have R:=Jo h j;obtain⟨_,b,j,c⟩:=PA (R.g1 _ R.s1).2.2;have i:x3 aa b:=He R.cw R.s1 j;unfold jx at c
 cases d:lH aa.j b with
 | some a=>
   rw[d]at c;simp only at c
   cases e:lU aa.j b a (off aa.j b.v (b.rows a)) with
   | some _=>grind
   | none=>exact⟨_,.inf b a i d e⟩
 | none=>
   have c:=R.s2 b i d;obtain⟨_,a,b,e⟩:=PA (R.g2 _ c).2.2;have h:tR aa a:=He R.gg c b;unfold h' at e
   cases f:enters aa.j aa.cs a with
   | none=>exact⟨_,.opt a h f⟩
   | some g=>
     rw[f]at e;simp only at e
     cases k:(dW aa.j a g (eF aa.j aa.cs a g) aa.j.m).e4 with
     | some _=>grind
     | none=>exact⟨_,.cB a g h f k⟩
theorem pg{aa:ar}(h:c5 aa)(b:aa.I=true):fZ aa (eo aa):=by
 obtain⟨_,a⟩:=abo h b;rw[vg a];exact a
structure sI(l:ar)(s:bV):Prop extends lO l s where
 v:∀w,s.val=some w->bo w=true
 t:s.todo.length<=s.tree.length
theorem sI.look{l:ar}{s:bV}(e:jq l)(h:sI l s){k:Nat}{cs:List a1}(b:kC l cs):sI l (s.look l k cs)/\((s.look l k cs).tree.length=s.tree.length/\(s.look l k cs).todo.length=s.todo.length∨(s.look l k cs).tree.length=s.tree.length+2/\(s.look l k cs).todo.length=s.todo.length+2):=by
 have a:∀f,sI l (s.Z k f):=λf=>⟨h.tolO.Z,h.v,by simpa [bV.Z]using h.t⟩;unfold bV.look;by_cases c:(⟨cs,l.rows⟩:ar).I=true
 ·rw[aL c];have g:=b.fM e.s;have i:=pg g c;by_cases d:(eo ⟨cs,l.rows⟩).st=1
  ·rw[aL d];split
   ·exact⟨a _,.inl ⟨by simp[bV.Z],rfl⟩⟩
   ·split
    ·exact⟨⟨⟨(a _).h0⟩,λ_ h=>by cases h;exact jf (DO g c i d).2,(a _).t⟩,.inl ⟨by simp[bV.Z],rfl⟩⟩
    ·rename_i m n;obtain⟨l,j,o⟩:=Fk n;have k:m<cs.length:=by rw[b.len];exact l
     obtain⟨p,q⟩:=JA e.s b c i d k j;refine⟨⟨(a _).tolO.branch b k j p q o,h.v,?_⟩,.inr ⟨by simp[bV.branch,bV.U,bV.Z],by simp[bV.branch,bV.U,bV.Z]⟩⟩;have:=h.t;simp[bV.branch,bV.U,bV.Z];omega
  ·rw[aw d];exact⟨a _,.inl ⟨by simp[bV.Z],rfl⟩⟩
 grind
theorem sI.del{l:ar}{s:bV}(h:sI l s){k:Nat}(av:k<s.todo.length):sI l (s.del k):=⟨h.tolO.del,h.v,by
 have:=h.t;have e:(s.todo.eraseIdx k).length=s.todo.length-1:=by rw[List.length_eraseIdx,aL av]
 show(s.todo.eraseIdx k).length<=s.tree.length;omega⟩
end Go.Dam.C
namespace Go.Dam.C
open Go Go.Dam
variable{X:aA}{pm cu:Perm}{H ab bX ai:ae}{n p aX aH cI e9 fE c3:Nat}{cL dF jS:Value}{deep:Bool}{s ve:bV}{cs:List a1}{l:ar}
theorem ou.form{A:Nat->Prop}{v:Value}{l:List (Nat×List a1)}(h:ou H A aX cI v l):∃a cap,v=.slice a l.length cap:=by
 rcases h with⟨rfl,rfl,_⟩ | ⟨rfl,_⟩
 ·exact⟨_,_,rfl⟩
 ·exact⟨_,_,rfl⟩
theorem gp.form{A:Nat->Prop}{v:Value}{l:List cz}(h:gp H A aH v l):∃a,v=.slice a l.length l.length:=by
 rcases h with⟨rfl,rfl⟩ | ⟨rfl,_⟩
 ·exact⟨_,rfl⟩
 ·exact⟨_,rfl⟩
end Go.Dam.C
namespace Go.Dam.C
open Go Go.Dam
variable{X:aA}{pm cu:Perm}{H ab bX ai:ae}{n:Nat}{deep:Bool}{l:ar}
def py:bV:=⟨[],[],⟨2,[],[],[],[]⟩,none⟩
def lo(k:Int):Nat:=if 0<k then min 300 k.toNat else 300
theorem QD{k:Int}:lo k<=300:=by unfold lo;split<;>omega
theorem gp.ext{A:Nat->Prop}{a:Nat}{v:Value}{l:List cz}(h:gp H A a v l)(e:Ext H ab):gp ab A a v l:=h.imp (λb y a q=>⟨a,e b y q⟩) λ_ q=>e _ _ q
theorem gp.put{aW a c:Nat}{v:Value}{l:List cz}(h:gp H (λb=>aW<=b) a v l)(d:c<aW)(d:aW<=a)(x:bz):gp (H.put c x) (λb=>aW<=b) a v l:=
 h.imp (λb _ d q=>⟨d,by rw[a6 (by omega)];exact q⟩) λ_ q=>by rw[a6 (by omega)];exact q
theorem gp.mono{aW a c:Nat}{v:Value}{l:List cz}(h:gp H (λb=>aW<=b) c v l)(d:a<=aW):gp H (λb=>a<=b) c v l:=h.imp (λb _ _ q=>⟨by omega,q⟩) λ_ q=>q
end Go.Dam.C
namespace Go.Dam.C
open Go Go.Dam
theorem U8{q:Rat}{N:Nat}(h:q.num.natAbs<=N):-((N:Int):Rat)<=q/\q<=((N:Int):Rat):=by
 have a:(N:Int)*1<=N*(q.den:Int):=Int.mul_le_mul_of_nonneg_left (by have:=q.den_pos;omega) (by omega);constructor
 ·rw[<-Rat.intCast_neg,Rat.le_iff,Rat.num_intCast,Rat.den_intCast,Int.neg_mul];omega
 ·rw[Rat.le_iff,Rat.num_intCast,Rat.den_intCast];omega
theorem ku.short{s:List UInt8}(aP:s≠[])(h:s.length<=20):ku s:=by
 have a:=U8 (tv h).1;have e:(((10^20:Nat):Nat):Int)=(10:Int)^20:=by decide +kernel
 rw[e]at a;refine⟨aP,by omega,?_,?_⟩
 ·rw[x0];exact a.1
 ·rw[x0];exact a.2
def eE(t:Bool)(c:a1):a1:=if t then{c with cost:=[48]} else c
theorem oB{t:Bool}{c:a1}:(eE t c).low=c.low:=by cases t<;>rfl
theorem oC{t:Bool}{c:a1}:(eE t c).up=c.up:=by cases t<;>rfl
theorem vY{t:Bool}{c:a1}:(eE t c).int=c.int:=by cases t<;>rfl
noncomputable def cB(l:ar):Bool:=decide ((eo l).st=3)
noncomputable def db(l:ar):ar:=⟨l.a.map (eE (cB l)),l.rows⟩
def nV(l:ar):Bool:=l.a.any λc=>c.int&&(c.low.isEmpty||c.up.isEmpty)
theorem p1{l:ar}:(db l).a.length=l.a.length:=by simp[db]
theorem wJ{l:ar}{i:Nat}(a:i<l.a.length):(db l).ad i=eE (cB l) (l.ad i):=by
 rw[<-BK,<-BK];simp only[db,e5,jd,en a,hK,je]
structure nr(l:ar):Prop where
 s:c5 l
 b:∀c∈l.a,c.low.length<=20/\c.up.length<=20
 k:∀i,i<l.rows.length->(l.row i).G.length<=1000
theorem nr.ok{l:ar}(h:nr l)(d:nV l=false):jq (db l):=by
 refine⟨⟨by rw[p1];exact h.s.n,h.s.m,λc a=>?_,h.s.r⟩,λ_ b e=>?_⟩
 ·obtain⟨c,f,rfl⟩:=gl.1 a;obtain⟨g,i,_⟩:=h.s.c c f;refine⟨by rw[oB];exact g,by rw[oC];exact i,?_⟩;unfold eE;grind
 ·rw[p1]at b;rw[wJ b]at e|-;rw[vY]at e;rw[oB,oC];have a:=cX (ar.kc b);have c:=h.b _ a;have b:=List.any_eq_false.1 d _ a;simp[e]at b;exact⟨.short b.1 c.1,.short b.2 c.2⟩
inductive iy(l:ar)(deep:Bool)(k:Int):cW->List cz->Int->Prop
 | form:l.I=false->iy l deep k ⟨0,[],[],[],[]⟩ [] 1
 | wide:l.I=true->nV l=true->iy l deep k ⟨0,[],[],[],[]⟩ [] 10
 | jj (iN:bV):l.I=true->nV l=false->hz (db l) deep (lo k) (py.U (db l).a) iN false->iy l deep k ⟨4,[],[],[],[]⟩ [] 0
 | cB (iN:bV):l.I=true->nV l=false->hz (db l) deep (lo k) (py.U (db l).a) iN true->cB l=true->iN.L.st=1->iy l deep k ⟨3,[],iN.L.x,[],(eo l).r⟩ [] 0
 | done (iN:bV):l.I=true->nV l=false->hz (db l) deep (lo k) (py.U (db l).a) iN true->¬(C.cB l=true/\iN.L.st=1)->iy l deep k ⟨iN.L.st,iN.L.val,iN.L.x,[],[]⟩ iN.tree 0
variable{X:aA}{pm cu:Perm}{H ab bX ai:ae}{n:Nat}
variable{deep:Bool}{l:ar}
end Go.Dam.C
namespace Go.Dam.C
open Go Go.Dam
variable{deep:Bool}{l:ar}
theorem hz.up{l:ar}{m n:Nat}{s a b:bV}{x:Bool}(c:m<=n)(h:hz l deep m s a true)(g:hz l deep n s b x):a=b/\x=true:=by
 obtain⟨_,_⟩:=(h.more c rfl).Wc g;grind
theorem iy.mono{k dy:Int}{b c:cW}{d e:List cz}{f g:Int}(h:lo k<=lo dy)(i:iy l deep k b d f)(a:iy l deep dy c e g):f=g/\(b.st=4∨b=c/\d=e):=by
 cases i with
 | form _=>
   cases a with
   | form _=>grind
   | wide _ _=>grind
   | jj _ _ _ _=>grind
   | cB _ _ _ _ _ _=>grind
   | done _ _ _ _ _=>grind
 | wide _ _=>
   cases a with
   | form _=>grind
   | wide _ _=>grind
   | jj _ _ _ _=>grind
   | cB _ _ _ _ _ _=>grind
   | done _ _ _ _ _=>grind
 | jj _ _ _ _=>
   refine⟨?_,.inl rfl⟩
   cases a with
   | form _=>grind
   | wide _ _=>grind
   | jj _ _ _ _=>rfl
   | cB _ _ _ _ _ _=>rfl
   | done _ _ _ _ _=>rfl
 | cB _ _ _ b _ _=>
   cases a with
   | form _=>grind
   | wide _ _=>grind
   | jj _ _ _ c=>obtain⟨_,f⟩:=b.up h c;cases f
   | cB _ _ _ c _ _=>obtain⟨rfl,_⟩:=b.up h c;grind
   | done _ _ _ c _=>obtain⟨rfl,_⟩:=b.up h c;grind
 | done _ _ _ b _=>
   cases a with
   | form _=>grind
   | wide _ _=>grind
   | jj _ _ _ c=>obtain⟨_,f⟩:=b.up h c;cases f
   | cB _ _ _ c _ _=>obtain⟨rfl,_⟩:=b.up h c;grind
   | done _ _ _ c _=>obtain⟨rfl,_⟩:=b.up h c;grind
end Go.Dam.C
namespace Go.Dam.C
theorem s3{s:List UInt8}(h:isNum s=true):bk (rd s)=s:=by
 unfold isNum at h;unfold rd
 cases e:gq s with
 | none=>grind
 | some _=>
   unfold gq lh at e;grind
theorem nL{s:List UInt8}(h:isNum s=true):s≠[]:=by
 rintro rfl;simp[isNum,gq,lh,ik,kH,ie]at h
theorem Ja{s:List UInt8}(h:isNum s=false):rd s=0:=by
 unfold isNum at h;unfold rd;simp_all
theorem aat(b:Rat):rd (bk b)=b∨rd (bk b)=0:=by
 cases e:isNum (bk b) with
 | true=>exact .inl (xb (s3 e))
 | false=>exact .inr (Ja e)
theorem aad{b:Rat}(h:0<rd (bk b)):0<b:=by
 rcases aat b with e | e
 ·rwa [e]at h
 grind
def lQ(c:a1)(v:Rat):a1:=if isNum c.up=true/\rd c.up<=v then c else{c with up:=bk v}
def lP(c:a1)(v:Rat):a1:=if isNum c.low=true/\v<=rd c.low then c else{c with low:=bk v}
def f'(cs:List a1)(i:Nat)(v:Rat):List a1:=cs.set i (lQ (cs.getD i bY) v)
def gG(cs:List a1)(i:Nat)(v:Rat):List a1:=cs.set i (lP (cs.getD i bY) v)
def ju(c:a1):Bool:=isNum c.low&&(isNum c.up&&decide (rd c.up<rd c.low))
def k1(rows:List b9)(a:Rat)(all:Bool)(cs:List a1)(d:List (List UInt8)):Bool:=
 cs.any ju||(((eX ⟨cs,rows⟩ d false).isSome&&decide (0<rd (fR (eX ⟨cs,rows⟩ d false))))||(!all&&((eX ⟨cs,rows⟩ d true).isSome&&decide (a<=rd (fR (eX ⟨cs,rows⟩ d true))))))
structure sv(tree:List cz)(k:Nat)(cs:List a1)(s:List Bool)(x:cz):Prop where
 n:isNum x.at'=true
 w:(rd x.at').den=1
 c:x.ad<(cs.length:Int)
 i:(cs.getD x.ad.toNat bY).int=true
 XI:(k:Int)<x.l
 XM:x.l<(tree.length:Int)
 Ya:s.getD x.l.toNat false=false
 l7:(k:Int)<x.r
 l8:x.r<(tree.length:Int)
 aap:(s.set x.l.toNat true).getD x.r.toNat false=false
inductive h6(rows:List b9)(tree:List cz)(kL:Rat)(all:Bool):Nat->List a1->List Bool->Bool->List Bool->Prop
 | leaf (k:Nat) (cs:List a1) (s:List Bool) (x:cz):tree[k]? = some x->x.ad<0->h6 rows tree kL all k cs s (k1 rows kL all cs x.d) (s.set k true)
 | bad (k:Nat) (cs:List a1) (s jJ:List Bool) (x:cz):tree[k]? = some x->0<=x.ad->¬sv tree k cs (s.set k true) x->h6 rows tree kL all k cs s false jJ
 | left (k:Nat) (cs:List a1) (s Ah:List Bool) (x:cz):tree[k]? = some x->0<=x.ad->sv tree k cs (s.set k true) x->h6 rows tree kL all x.l.toNat (f' cs x.ad.toNat (rd x.at')) (((s.set k true).set x.l.toNat true).set x.r.toNat true) false Ah->h6 rows tree kL all k cs s false Ah
 | both (k:Nat) (cs:List a1) (s Ah SC:List Bool) (b:Bool) (x:cz):tree[k]? = some x->0<=x.ad->sv tree k cs (s.set k true) x->h6 rows tree kL all x.l.toNat (f' cs x.ad.toNat (rd x.at')) (((s.set k true).set x.l.toNat true).set x.r.toNat true) true Ah->h6 rows tree kL all x.r.toNat (gG cs x.ad.toNat (rd x.at'+1)) Ah b SC->h6 rows tree kL all k cs s b SC
structure pK(rows:List b9)(cs:List a1)(x:Nat->Rat):Prop where
 f:h4 ⟨cs,rows⟩ x
 w:∀i,i<cs.length->(cs.getD i bY).int=true->(x i).den=1
structure tT(l:ar)(cs:List a1):Prop where
 len:cs.length=l.a.length
 c:∀i,i<cs.length->(cs.getD i bY).cost=(l.ad i).cost/\(cs.getD i bY).int=(l.ad i).int
def kB(l:ar)(cs:List a1)(a:Rat)(all:Bool):Prop:=∀x,pK l.rows cs x->all=false/\a<=l.P x
theorem SQ{l:ar}{cs:List a1}(h:tT l cs)(x:Nat->Rat):(⟨cs,l.rows⟩:ar).P x=l.P x:=by
 show aS (λi=>rd (cs.getD i bY).cost*x i) cs.length=aS (λi=>rd (l.ad i).cost*x i) l.a.length;rw[<-h.len];exact c9 λi a=>by rw[(h.c i a).1]
theorem Bm{aa:ar}{a:List (List UInt8)}{bQ:Bool}{b:Rat}(h:eX aa a bQ=some b):aa.I=true:=by
 unfold eX at h;split at h
 ·exact CN (by assumption)
 ·cases h
theorem Of{l:ar}{cs:List a1}{a:Rat}{all:Bool}(h:cs.any ju=true):kB l cs a all:=by
 intro _ b;obtain⟨_,c,h⟩:=List.any_eq_true.1 h;obtain⟨i,e,rfl⟩:=ux (d:=bY) c;unfold ju at h;simp only[bK,cP]at h;obtain⟨a,c,f⟩:=h;obtain⟨g,j⟩:=b.f.c i e;exact absurd f (fy.2 (Rat.le_trans (g (nL a)) (j (nL c))))
theorem QV{l:ar}{cs:List a1}{a:Rat}{all:Bool}{d:List (List UInt8)}(b7:(eX ⟨cs,l.rows⟩ d false).isSome=true)(cH:0<rd (fR (eX ⟨cs,l.rows⟩ d false))):kB l cs a all:=by
 intro _ b;obtain⟨_,a⟩:=n0.1 b7;rw[a]at cH;have:=Az b.f (vQ (Bm a) a);simp only[kl,if_false]at this;exact absurd (aad cH) (fy.2 this)
theorem Qc{l:ar}{cs:List a1}{e:Rat}{all:Bool}{d:List (List UInt8)}(f:tT l cs)(g:∀b,eX ⟨cs,l.rows⟩ d true=some b->rd (bk b)=b)(h:k1 l.rows e all cs d=true):kB l cs e all:=by
 unfold k1 at h;rw[jG,jG]at h
 rcases h with h | h | h
 ·exact Of h
 ·simp only[bK,cP]at h;exact QV h.1 h.2
 ·intro _ d;simp only[bK,cP,ir]at h;obtain⟨_,i,a⟩:=h;obtain⟨b,c⟩:=n0.1 i;rw[c]at a;have a:e<=rd (bk b):=a;rw[g b c]at a;have:=Az d.f (vQ (Bm c) c);simp only[if_true]at this;rw[SQ f]at this;grind
theorem Ea{rows:List b9}{cs:List a1}{x:Nat->Rat}{i:Nat}{c:a1}(d:i<cs.length)(h:pK rows cs x)(f:c.int=(cs.getD i bY).int)(aY:c.low≠[]->rd c.low<=x i)(a:c.up≠[]->x i<=rd c.up):pK rows (cs.set i c) x:=by
 refine⟨⟨λj a=>?_,λj a=>?_⟩,λj a b=>?_⟩
 ·have a:j<cs.length:=by simpa using a
  show(((cs.set i c).getD j bY).low≠[]->rd ((cs.set i c).getD j bY).low<=x j)/\(((cs.set i c).getD j bY).up≠[]->x j<=rd ((cs.set i c).getD j bY).up);rw[pX d];by_cases e:j=i
  ·grind
  ·rw[aw e];exact h.f.c j a
 ·have e:gz (⟨cs.set i c,rows⟩:ar) x j=gz (⟨cs,rows⟩:ar) x j:=by
   show aS (λq=>hs ((⟨cs,rows⟩:ar).row j).G q*x q) (cs.set i c).length=_;rw[tl];rfl
  rw[e];exact h.f.r j a
 ·have c:j<cs.length:=by simpa using a
  rw[pX d]at b;by_cases e:j=i
  ·subst e;rw[aL rfl,f]at b;exact h.w j c b
  ·rw[aw e]at b;exact h.w j c b
theorem Gy{q:Rat}(h:q.den=1):∃z:Int,q=(z:Rat):=⟨q.num,by
 have:=s6 q;rw[h]at this;grind⟩
theorem Px{p q:Rat}(b:p.den=1)(c:q.den=1)(h:p<q):p+1<=q:=by
 obtain⟨a,rfl⟩:=Gy b;obtain⟨_,rfl⟩:=Gy c;have h:=Rat.intCast_lt_intCast.1 h;have e:((a:Int):Rat)+1=((a+1:Int):Rat):=by simp
 rw[e];exact Rat.intCast_le_intCast.2 (by omega)
theorem tT.set{l:ar}{cs:List a1}(h:tT l cs){i:Nat}{c:a1}(b:i<cs.length)(b7:c.cost=(cs.getD i bY).cost)(cH:c.int=(cs.getD i bY).int):tT l (cs.set i c):=by
 refine⟨by simp[h.len],λj c=>?_⟩;have a:j<cs.length:=by simpa using c
 rw[pX b];by_cases e:j=i
 ·subst e;rw[aL rfl,b7,cH];exact h.c j a
 ·rw[aw e];exact h.c j a
def oM(l:ar)(r:List (List UInt8)):Bool:=(List.range l.a.length).all λi=>!((l.ad i).int&&(decide (i<r.length)&&decide (r.getD i []≠[48])))
def j5(l:ar)(a:List cz)(c:List UInt8)(all:Bool)(b:Bool):Prop:=
 if l.I=true/\0<a.length/\a.length<=601/\(isNum c=true∨all=true) then
  ∃t d,h6 l.rows a (rd c) all 0 l.a (List.replicate a.length false) t d/\b=(t&&!d.contains false)
 else b=false
def iU(l:ar)(a:cW)(c:List cz)(b:Bool):Prop:=
 if l.I=true/\a.d.length=0 then
  if a.st=1 then
   if(gy l a.x).isSome=true/\fR (gy l a.x)=a.val/\fU l a.x=true/\jm l a.x=true/\a.r.length=0 then j5 l c a.val false b else b=false
  else if a.st=2 then
   if a.val=[]/\a.x.length+a.r.length=0 then j5 l c [] true b else b=false
  else if a.st=3 then b=(oM l a.r&&(decide (a.val=[])&&(fU l a.x&&(jm l a.x&&(iL l a.r&&decide (c.length=0))))))
  else b=false
 else b=false
inductive oe(l:ar)(a:cW):Prop
 | opt (x:Nat->Rat):a.st=1->pK l.rows l.a x->a.val=bk (l.P x)->kB l l.a (l.P x) false->oe l a
 | inf:a.st=2->a.val=[]->kB l l.a 0 true->oe l a
 | cB (x r:Nat->Rat):a.st=3->a.val=[]->pK l.rows l.a x->om l r->(∀i,i<l.a.length->(l.ad i).int=true->r i=0)->oe l a
theorem aaN{a:Int}{s b q k:Rat}(h:xy a s b)(g:xy a q 0)(av:0<=k):xy a (s+k*q) b:=by
 obtain⟨a,c,_⟩:=h;obtain⟨d,f,_⟩:=g;refine⟨λe=>?_,λe=>?_,λe _=>?_⟩
 ·have g:=a e;have b:=fW av (show 0<=-q by have:=d e;grind);grind
 ·have a:=c e;have b:=fW av (f e);grind
 grind
theorem h4.R3{aa:ar}{x r:Nat->Rat}(h:h4 aa x)(g:om aa r){k:Rat}(av:0<=k):h4 aa λi=>x i+k*r i:=by
 refine⟨λj a=>?_,λi b=>?_⟩
 ·obtain⟨c,d⟩:=h.c j a;obtain⟨f,i⟩:=g.c j a;refine⟨λe=>?_,λe=>?_⟩
  ·have a:=c e;have a:=fW av (f e);grind
  ·have a:=d e;have a:=fW av (show 0<=-r j by have:=i e;grind);grind
 ·have e:gz aa (λi=>x i+k*r i) i=gz aa x i+k*gz aa r i:=by
   unfold gz;rw[<-fP,<-kr];exact c9 λj _=>by grind
  rw[e];exact aaN (h.r i b) (g.r i b) av
theorem oe.wS{l:ar}{x r:Nat->Rat}(c:pK l.rows l.a x)(d:om l r)(aP:∀i,i<l.a.length->(l.ad i).int=true->r i=0){a:Rat}{all:Bool}(h:kB l l.a a all):False:=by
 have b:=d.n;have e:0 < -l.P r:=by grind
 have f:l.P r≠0:=by grind
 by_cases f:a<=l.P x-1
 ·have f:0<=(l.P x-a+1)/(-l.P r):=by
   rw[Rat.div_def];exact fW (by grind) (iJ (Rat.inv_pos.2 e))
  have g:pK l.rows l.a λi=>x i+(l.P x-a+1)/(-l.P r)*r i:=by
   refine⟨c.f.R3 d f,λi f b=>?_⟩;show(x i+(l.P x-a+1)/(-l.P r)*r i).den=1;rw[aP i f b,mX,lB];exact c.w i f b
  have f:=(h _ g).2;have g:l.P (λi=>x i+(l.P x-a+1)/(-l.P r)*r i)=l.P x+(l.P x-a+1)/(-l.P r)*l.P r:=by
   unfold ar.P;rw[<-fP,<-kr];exact c9 λ_ _=>by grind
  rw[g]at f;have f:(l.P x-a+1)/(-l.P r)*l.P r=-(l.P x-a+1):=by grind
  grind
 ·have a:0<=2/(-l.P r):=by
   rw[Rat.div_def];exact fW (by decide) (iJ (Rat.inv_pos.2 e))
  have e:pK l.rows l.a λi=>x i+2/(-l.P r)*r i:=by
   refine⟨c.f.R3 d a,λi a b=>?_⟩;show(x i+2/(-l.P r)*r i).den=1;rw[aP i a b,mX,lB];exact c.w i a b
  have a:=(h _ e).2;have e:l.P (λi=>x i+2/(-l.P r)*r i)=l.P x+2/(-l.P r)*l.P r:=by
   unfold ar.P;rw[<-fP,<-kr];exact c9 λ_ _=>by grind
  rw[e]at a;have a:2/(-l.P r)*l.P r=-2:=by grind
  grind
theorem JX{l:ar}{xs:List (List UInt8)}(h:jm l xs=true):∀i,i<l.a.length->(l.ad i).int=true->(bU xs i).den=1:=by
 unfold jm at h;rw[bK]at h;intro i a _;have:=AA.1 h.2 i a;grind
theorem JU{l:ar}{xs:List (List UInt8)}{v:Rat}(h:gy l xs=some v):v=l.P (bU xs):=by
 unfold gy at h;grind
theorem CM{l:ar}{xs:List (List UInt8)}{m:Nat}(h:dJ l xs m=true):xs.length=m/\xs.all isNum=true:=by
 unfold dJ at h;grind
inductive cQ
 | ag (k:Nat)
 | aH (k:Nat) (a b:cQ)
def cQ.rt:cQ->Nat
 | .ag k=>k
 | .aH k _ _=>k
def cQ.B:cQ->List Nat
 | .ag k=>[k]
 | .aH k a b=>k::(a.B++b.B)
def cQ.gQ:cQ->List Nat
 | .ag k=>[k]
 | .aH _ a b=>a.gQ++b.gQ
def cQ.jK(k n:Nat):cQ->cQ
 | .ag j=>if j=k then .aH k (.ag n) (.ag (n+1)) else .ag j
 | .aH j a b=>.aH j (a.jK k n) (b.jK k n)
theorem cQ.Ae{k n:Nat}:∀{t:cQ},(t.jK k n).rt=t.rt
 | .ag _=>by
   unfold cQ.jK;split
   ·rename_i e;exact e.symm
   ·rfl
 | .aH _ _ _=>rfl
theorem cQ.nb:∀{t:cQ},t.rt∈t.B
 | .ag _=>.head _
 | .aH _ _ _=>.head _
theorem cQ.wG:∀{t:cQ} {k:Nat},k∈t.gQ->k∈t.B
 | .ag _,k,h=>h
 | .aH _ _ _,k,h=>by
   rcases fc.1 h with h | h
   ·exact .tail _ (fc.2 (.inl (cQ.wG h)))
   ·exact .tail _ (fc.2 (.inr (cQ.wG h)))
theorem cQ.DP{k n:Nat}:∀{t:cQ},k∉t.gQ->t.jK k n=t
 | .ag _,h=>by
   unfold cQ.jK;rw[aw];rintro rfl;exact h (.head _)
 | .aH _ a b,h=>by
   have c:k∉a.gQ:=λe=>h (fc.2 (.inl e));have a:k∉b.gQ:=λe=>h (fc.2 (.inr e));rw[cQ.jK,cQ.DP c,cQ.DP a]
theorem cQ.Hg{k n:Nat}:∀{t:cQ},t.B.Nodup->k∈t.gQ->(t.jK k n).B.Perm (n::(n+1)::t.B)
 | .ag j,_,h=>by
   obtain rfl:k=j:=mV.1 h;rw[cQ.jK,aL rfl];show[k,n,n+1].Perm [n,n+1,k];exact(@List.perm_append_comm _ [k] [n,n+1])
 | .aH j a b,e,h=>by
   have f:(j::(a.B++b.B)).Nodup:=e;obtain⟨_,e⟩:=List.nodup_cons.1 f;obtain⟨g,i,d⟩:=List.nodup_append.1 e;rw[cQ.jK];show(j::((a.jK k n).B++(b.jK k n).B)).Perm (n::(n+1)::j::(a.B++b.B));have c:((a.jK k n).B++(b.jK k n).B).Perm (n::(n+1)::(a.B++b.B))->(j::((a.jK k n).B++(b.jK k n).B)).Perm (n::(n+1)::j::(a.B++b.B)):=λp=>
    (p.cons j).trans (@List.perm_append_comm _ [j] [n,n+1] |>.append_right _)
   rcases fc.1 h with h | h
   ·have l:k∉b.gQ:=λe=>d _ (cQ.wG h) _ (cQ.wG e) rfl;rw[cQ.DP l]at c|-;exact c ((cQ.Hg g h).append_right b.B)
   ·have l:k∉a.gQ:=λe=>d _ (cQ.wG e) _ (cQ.wG h) rfl;rw[cQ.DP l]at c|-;exact c (((cQ.Hg i h).append_left a.B).trans (by
     have:=@List.perm_append_comm _ a.B [n,n+1];have:=this.append_right b.B;simpa using this))
structure kv(c:a1)(v:Rat):Prop where
 i:c.int=true
 cw:isNum c.low=true
 gg:isNum c.up=true
 ah:rd c.low<=v
 az:v<=rd c.up
 d:v.den≠1
 c0:-ff<=v
 b':v<=ff
def ec(v:Rat):Rat:=((v.floor:Int):Rat)
theorem Hc{z:Int}(aP:z.natAbs<=10^20):bI e0 (z:Rat):=by
 refine⟨?_,?_⟩
 ·rw[Rat.num_intCast];exact a8 aP (by rw[<-fQ];exact j4)
 ·rw[Rat.den_intCast];exact As 1900
theorem WD{v:Rat}(a:-ff<=v)(b:v<=ff):v.floor.natAbs<=10^20:=by
 refine ze ?_ (Rat.le_trans (Rat.floor_le v) b);rw[vs]at a|-;exact Rat.intCast_le_intCast.2 (Rat.le_floor_iff.2 a)
theorem WC{v:Rat}(a:-ff<=v)(b:v<=ff)(d:v.den≠1):(v.floor+1).natAbs<=10^20:=by
 refine ze ?_ ?_
 ·rw[vs]at a|-;have:=Rat.le_floor_iff.2 a;exact Rat.intCast_le_intCast.2 (by omega)
 ·rw[x0]at b|-;have a:((v.floor:Int):Rat)<((10^20:Int):Rat):=(by have:=Cc d;grind);have a:=Rat.intCast_lt_intCast.1 a;exact Rat.intCast_le_intCast.2 (by omega)
theorem O6(v:Rat):ec v+1=((v.floor+1:Int):Rat):=by simp[ec]
theorem kv.bI{c:a1}{v:Rat}(h:kv c v):bI e0 (ec v)/\C.bI e0 (ec v+1):=⟨Hc (WD h.c0 h.b'),by rw[O6];exact Hc (WC h.c0 h.b' h.d)⟩
theorem kv.Vf{c:a1}{v:Rat}(h:kv c v):lQ c (ec v)={c with up:=bk (ec v)}:=by
 unfold lQ;rw[aw];rintro⟨_,_⟩;have a:ec v<v:=Cc h.d;have:=h.az;grind
theorem Qm(v:Rat):v<ec v+1:=by
 rw[O6];have:=Rat.lt_floor (x:=v);simp at this|-;grind
theorem kv.UQ{c:a1}{v:Rat}(h:kv c v):lP c (ec v+1)={c with low:=bk (ec v+1)}:=by
 unfold lP;rw[aw];rintro⟨_,_⟩;have a:=Qm v;have:=h.ah;grind
theorem kv.f'{cs:List a1}{i:Nat}{v:Rat}(h:kv (cs.getD i bY) v):C.f' cs i (ec v)=h2 cs i (bk (ec v)):=by
 unfold C.f' h2;rw[h.Vf]
theorem kv.gG{cs:List a1}{i:Nat}{v:Rat}(h:kv (cs.getD i bY) v):C.gG cs i (ec v+1)=ig cs i (bk (ec v+1)):=by
 unfold C.gG ig;rw[h.UQ]
def ee(a:List cz)(P:Nat->List a1->List (List UInt8)->Prop):cQ->List a1->Prop
 | .ag k,b=>∃x,a[k]? = some x/\x.ad<0/\P k b x.d
 | .aH k c d,b=>∃x i v,a[k]? = some x/\x.ad=((i:Nat):Int)/\x.at'=bk (ec v)/\x.l=(c.rt:Int)/\x.r=(d.rt:Int)/\k<c.rt/\k<d.rt/\i<b.length/\kv (b.getD i bY) v/\ee a P c (h2 b i (bk (ec v)))/\ee a P d (ig b i (bk (ec v+1)))
section
variable{tree tJ:List cz}{P qW:Nat->List a1->List (List UInt8)->Prop}
theorem ee.JQ{k:Nat}{c:cz}(av:tree[k]? = some c)(f:c.ad<0)(a:∀j,j≠k->∀y,tree[j]? = some y->tJ[j]? = some y)(e:∀j cs d,j≠k->j<tree.length->P j cs d->qW j cs d)(aY:∀cs,P k cs c.d->∃x,tJ[k]? = some x/\x.ad<0/\qW k cs x.d):∀{t:cQ} {cs:List a1},ee tree P t cs->ee tJ qW t cs
 | .ag j,cs,h=>by
   obtain⟨x,b,i,g⟩:=h;by_cases d:j=k
   ·subst d;rw[av]at b;cases b;exact aY cs g
   ·exact⟨x,a j d _ b,i,e j cs _ d (hZ.1 b).1 g⟩
 | .aH j _ _,cs,h=>by
   obtain⟨x,i,v,b,d,g,l,m,n,o,p,q,r,s⟩:=h;have t:j≠k:=by
    rintro rfl;rw[av]at b;cases b;omega
   exact⟨x,i,v,a j t _ b,d,g,l,m,n,o,p,q,ee.JQ av f a e aY r,ee.JQ av f a e aY s⟩
theorem ee.split{k n:Nat}{e a y z:cz}(av:tree[k]? = some e)(u:e.ad<0)(b:∀j,j≠k->∀y,tree[j]? = some y->tJ[j]? = some y)(f:∀j cs d,j≠k->j<tree.length->P j cs d->qW j cs d)(c:k<n){i:Nat}{v:Rat}(g:tJ[k]? = some a)(h:a.ad=(i:Int))(l:a.at'=bk (ec v))(m:a.l=(n:Int))(o:a.r=((n+1:Nat):Int))(p:tJ[n]? = some y)(q:y.ad<0)(r:tJ[n+1]? = some z)(s:z.ad<0)
 (aY:∀cs,P k cs e.d->i<cs.length/\kv (cs.getD i bY) v/\qW n (h2 cs i (bk (ec v))) y.d/\qW (n+1) (ig cs i (bk (ec v+1))) z.d):∀{t:cQ} {cs:List a1},ee tree P t cs->ee tJ qW (t.jK k n) cs
 | .ag j,cs,n=>by
   obtain⟨x,d,t,k⟩:=n;unfold cQ.jK;split
   ·rename_i A;subst A;rw[av]at d;cases d;obtain⟨j,B,C,D⟩:=aY cs k;exact⟨a,i,v,g,h,l,m,o,c,Nat.lt_succ_of_lt c,j,B,⟨y,p,q,C⟩,⟨z,r,s,D⟩⟩
   ·rename_i w;exact⟨x,b j w _ d,t,f j cs _ w (hZ.1 d).1 k⟩
 | .aH j _ _,cs,i=>by
   obtain⟨x,n,t,d,v,y,z,B,C,D,E,F,G,H⟩:=i;have I:j≠k:=by
    rintro rfl;rw[av]at d;cases d;omega
   refine⟨x,n,t,b j I _ d,v,y,?_,?_,?_,?_,E,F,ee.split av u b f c g h l m o p q r s aY G,ee.split av u b f c g h l m o p q r s aY H⟩
   ·rw[cQ.Ae];exact z
   ·rw[cQ.Ae];exact B
   ·rw[cQ.Ae];exact C
   ·rw[cQ.Ae];exact D
theorem ee.leaf{k:Nat}{a:cz}(av:tree[k]? = some a)(b:a.ad<0):∀{t:cQ} {cs:List a1},ee tree P t cs->k∈t.B->k∈t.gQ
 | .ag _,cs,_,c=>c
 | .aH j _ _,cs,h,d=>by
   obtain⟨_,_,_,c,_,_,_,_,_,_,_,_,e,f⟩:=h;have g:k≠j:=by
    rintro rfl;rw[av]at c;cases c;omega
   rcases hH.1 d with h | h
   ·exact absurd h g
   ·rcases fc.1 h with h | h
    ·exact fc.2 (.inl (ee.leaf av b e h))
    ·exact fc.2 (.inr (ee.leaf av b f h))
theorem ee.imp(a:∀k cs d,P k cs d->qW k cs d):∀{t:cQ} {cs:List a1},ee tree P t cs->ee tree qW t cs
 | .ag _,cs,h=>by
   obtain⟨x,b,c,d⟩:=h;exact⟨x,b,c,a _ _ _ d⟩
 | .aH _ _ _,cs,h=>by
   obtain⟨x,i,v,b,c,d,e,f,g,j,k,l,m,n⟩:=h;exact⟨x,i,v,b,c,d,e,f,g,j,k,l,m.imp a,n.imp a⟩
variable{rows:List b9}{kL:Rat}{all:Bool}
theorem uy{s:List Bool}{i j:Nat} (a:i<s.length:=by omega):(s.set i true).getD j false=if j=i then true else s.getD j false:=by
 simp only[e5];by_cases e:j=i
 ·subst e;simp[a]
 ·rw[o2 (Ne.symm e),aw e]
theorem ee.node:∀{t:cQ} {cs:List a1},ee tree (λ_ cs d=>k1 rows kL all cs d=true) t cs->t.B.Nodup->∀{s:List Bool},s.length=tree.length->(∀j∈t.B,j<tree.length)->(∀j∈t.B,j≠t.rt->s.getD j false=false)->∀{b:Bool} {f:List Bool},h6 rows tree kL all t.rt cs s b f->b=true/\f.length=tree.length/\∀j,f.getD j false=true↔(s.getD j false=true∨j∈t.B)
 | .ag k,cs,h,_,s,c,d,_,b,f,e=>by
   obtain⟨x,b,_,g⟩:=h;have i:k<tree.length:=d k (.head _);have a:tree[(cQ.ag k).rt]? = some x:=b
   cases e with
   | leaf _ _ _ _ h _=>
     rw[a]at h;cases h;refine⟨g,by simp[c],λj=>?_⟩;show(s.set k true).getD j false=true↔_∨j∈[k];rw[uy,mV];by_cases e:j=k<;>simp[e]
   | bad _ _ _ _ _ h _=>rw[a]at h;cases h;omega
   | left _ _ _ _ _ h _=>rw[a]at h;cases h;omega
   | both _ _ _ _ _ _ _ h _=>rw[a]at h;cases h;omega
 | .aH k a b,cs,h,l,s,p,g,A,t,f,I=>by
   obtain⟨x,q,v,G,E,F,r,t,_,_,_,f,J,K⟩:=h;have i:tree[(cQ.aH k a b).rt]? = some x:=G;have G:k<tree.length:=g k (.head _);have G:(k::(a.B++b.B)).Nodup:=l;obtain⟨l,L⟩:=List.nodup_cons.1 G;obtain⟨M,N,m⟩:=List.nodup_append.1 L;have u:∀j,j∈a.B->j∈(cQ.aH k a b).B:=λj h=>.tail _ (fc.2 (.inl h));have w:∀j,j∈b.B->j∈(cQ.aH k a b).B:=λj h=>.tail _ (fc.2 (.inr h));have G:=g _ (u _ a.nb);have G:=g _ (w _ b.nb);have n:∀j∈a.B,s.getD j false=false/\j≠k:=λj h=>⟨A j (u j h) λe=>l (fc.2 (.inl (by have e:j=k:=e;rw[<-e];exact h))),λe=>l (fc.2 (.inl (e▸h)))⟩;have o:∀j∈b.B,s.getD j false=false/\j≠k:=λj h=>⟨A j (w j h) λe=>l (fc.2 (.inr (by have e:j=k:=e;rw[<-e];exact h))),λe=>l (fc.2 (.inr (e▸h)))⟩;have L:a.rt≠b.rt:=m _ a.nb _ b.nb;have y:x.l.toNat=a.rt:=by rw[r];omega
   have z:x.r.toNat=b.rt:=by rw[t];omega
   have l:x.ad.toNat=q:=by rw[E];omega
   obtain⟨G,_⟩:=f.bI;have A:rd x.at'=ec v:=by rw[F];exact G.rd
   have W:(s.set k true).length=tree.length:=by simp[p]
   have W:((s.set k true).set a.rt true).length=tree.length:=by simp[p]
   have O:(((s.set k true).set a.rt true).set b.rt true).length=tree.length:=by simp[p]
   have P:sv tree k cs (s.set k true) x:=by
    refine⟨?_,?_,?_,?_,?_,?_,?_,?_,?_,?_⟩
    ·rw[F];exact G.isNum
    ·rw[A];exact Rat.den_intCast _
    ·rw[E];omega
    ·rw[l];exact f.i
    ·rw[r];omega
    ·rw[r];omega
    ·rw[y,uy,aw (n _ a.nb).2];exact(n _ a.nb).1
    ·rw[t];omega
    ·rw[t];omega
    ·rw[y,z,uy,aw (Ne.symm L),uy,aw (o _ b.nb).2];exact(o _ b.nb).1
   have Q:C.f' cs x.ad.toNat (rd x.at')=h2 cs q (bk (ec v)):=by rw[l,A];exact f.f'
   have R:C.gG cs x.ad.toNat (rd x.at'+1)=ig cs q (bk (ec v+1)):=by rw[l,A];exact f.gG
   have B:∀j,(((s.set k true).set a.rt true).set b.rt true).getD j false=true↔(s.getD j false=true∨j=k∨j=a.rt∨j=b.rt):=λj=>by
    rw[uy,uy,uy];by_cases f:j=b.rt
    ·simp[f]
    ·by_cases b:j=a.rt
     ·simp[b]
     ·by_cases l:j=k
      ·simp[l]
      ·simp[f,b,l]
   have S:∀j∈a.B,j≠a.rt->(((s.set k true).set a.rt true).set b.rt true).getD j false=false:=λj c D=>by
    rw[lz];intro h;rcases(B j).1 h with h | h | h | h
    ·rw[(n j c).1]at h;cases h
    ·exact(n j c).2 h
    ·exact D h
    ·exact m _ c _ b.nb h
   have H:∀{f d},h6 rows tree kL all x.l.toNat (C.f' cs x.ad.toNat (rd x.at')) (((s.set k true).set x.l.toNat true).set x.r.toNat true) f d->f=true/\d.length=tree.length/\∀j,d.getD j false=true↔((((s.set k true).set a.rt true).set b.rt true).getD j false=true∨j∈a.B):=λ{f d} h=>by
    rw[Q,y,z]at h;exact ee.node J M O (λj c=>g j (u j c)) S h
   cases I with
   | leaf _ _ _ _ h _=>rw[i]at h;cases h;omega
   | bad _ _ _ _ _ h _ b=>
     rw[i]at h;cases h;exact absurd P b
   | left _ _ _ _ _ h _ _ b=>
     rw[i]at h;cases h;obtain⟨e,_⟩:=H b;cases e
   | both _ _ _ d _ _ _ h _ _ T s=>
     rw[i]at h;cases h;obtain⟨_,U,C⟩:=H T;rw[R,z]at s;have V:∀j∈b.B,j≠b.rt->d.getD j false=false:=λj c D=>by
      rw[lz];intro h;rcases(C j).1 h with h | h
      ·rcases(B j).1 h with h | h | h | h
       ·rw[(o j c).1]at h;cases h
       ·exact(o j c).2 h
       ·exact m _ a.nb _ c h.symm
       ·exact D h
      ·exact m _ h _ c rfl
     obtain⟨d,e,f⟩:=ee.node K N U (λj c=>g j (w j c)) V s;refine⟨d,e,λj=>?_⟩;rw[f,C,B];show _↔_∨j∈k::(a.B++b.B);rw[hH,fc];constructor
     ·rintro(((h | h | h | h) | h) | h)
      ·exact .inl h
      ·exact .inr (.inl h)
      ·exact .inr (.inr (.inl (h▸a.nb)))
      ·exact .inr (.inr (.inr (h▸b.nb)))
      ·exact .inr (.inr (.inl h))
      ·exact .inr (.inr (.inr h))
     ·rintro(h | h | h | h)
      ·exact .inl (.inl (.inl h))
      ·exact .inl (.inl (.inr (.inl h)))
      ·exact .inl (.inr h)
      ·exact .inr h
theorem ee.VR{t:cQ}{cs:List a1}(h:ee tree (λ_ cs d=>k1 rows kL all cs d=true) t cs)(g:t.rt=0)(i:t.B.Nodup)(e:∀j,j∈t.B↔j<tree.length){b:Bool}{c:List Bool}(f:h6 rows tree kL all 0 cs (List.replicate tree.length false) b c):(b&&!c.contains false)=true:=by
 rw[<-g]at f;obtain⟨b,_,d⟩:=h.node i (by simp) (λj a=>(e j).1 a) (λj a _=>by simp[xd];split<;>rfl) f;rw[b,Bool.true_and,ir,lz];intro b;have b:false∈c:=by simpa using b
 obtain⟨j,a,c⟩:=tp b;have:=(d j).2 (.inr ((e j).2 (by omega)));rw[e5,en a]at this;rw[c]at this;cases this
theorem ee.low{l:ar}:∀{t:cQ} {cs:List a1},ee tree (λ_ cs _=>kB l cs kL all) t cs->kB l cs kL all
 | .ag _,cs,h=>by
   obtain⟨_,_,_,a⟩:=h;exact a
 | .aH _ _ _,cs,h=>by
   obtain⟨_,i,v,_,_,_,_,_,_,_,a,c,e,f⟩:=h;have g:=ee.low e;have j:=ee.low f;obtain⟨k,l⟩:=c.bI;intro y b;have m:=b.w _ a c.i;obtain⟨n,o⟩:=b.f.c _ a;by_cases d:y i<=ec v
   ·exact g y (Ea a b rfl n λ_=>by show y i<=rd (bk (ec v));rw[k.rd];exact d)
   ·have q:=Px (p:=ec v) (Rat.den_intCast _) m (Rat.not_le.1 d);exact j y (Ea a b rfl (λ_=>by show rd (bk (ec v+1))<=y i;rw[l.rd];exact q) o)
theorem ee.sub{t:cQ}{cs:List a1}{k:Nat}{x:cz}(h:ee tree P t cs)(av:t.rt=k)(d:tree[k]? = some x)(r:0<=x.ad):
 ∃(a b:cQ) (i:Nat) (v:Rat),i<cs.length/\kv (cs.getD i bY) v/\C.f' cs x.ad.toNat (rd x.at')=h2 cs i (bk (ec v))/\C.gG cs x.ad.toNat (rd x.at'+1)=ig cs i (bk (ec v+1))/\(rd x.at'=ec v/\x.at'=bk (ec v))/\rd (bk (rd x.at'+1))=rd x.at'+1/\a.rt=x.l.toNat/\b.rt=x.r.toNat/\ee tree P a (C.f' cs x.ad.toNat (rd x.at'))/\ee tree P b (C.gG cs x.ad.toNat (rd x.at'+1)):=by
 cases t with
 | ag j=>
   obtain⟨_,a,_,_⟩:=h;obtain rfl:j=k:=av;rw[d]at a;cases a;omega
 | aH j a b=>
   obtain⟨_,i,v,e,g,f,l,m,_,_,n,c,o,p⟩:=h;obtain rfl:j=k:=av;rw[d]at e;cases e;obtain⟨d,q⟩:=c.bI;have e:rd x.at'=ec v:=by rw[f];exact d.rd
   have d:x.ad.toNat=i:=by rw[g];omega
   rw[e,d,c.f',c.gG];exact⟨a,b,i,v,n,c,rfl,rfl,⟨rfl,f⟩,q.rd,by rw[l];omega,by rw[m];omega,o,p⟩
theorem ee.at'{t:cQ}{cs:List a1}{k:Nat}{x:cz}(h:ee tree P t cs)(av:t.rt=k)(a:tree[k]? = some x)(d:x.ad<0):P k cs x.d:=by
 cases t with
 | ag j=>
   obtain⟨_,b,_,c⟩:=h;obtain rfl:j=k:=av;rw[a]at b;cases b;exact c
 | aH j _ _=>
   obtain⟨_,_,_,b,_,_⟩:=h;obtain rfl:j=k:=av;rw[a]at b;cases b;omega
end
section
variable{l:ar}{cs:List a1}
structure eU(l:ar)(cs:List a1):Prop where
 len:cs.length=l.a.length
 c:∀i,i<cs.length->(cs.getD i bY).cost=(l.ad i).cost/\(cs.getD i bY).int=(l.ad i).int/\((l.ad i).int=false->(cs.getD i bY).low=(l.ad i).low/\(cs.getD i bY).up=(l.ad i).up)/\((l.ad i).int=true->(isNum (cs.getD i bY).low=true/\isNum (cs.getD i bY).up=true)/\(ku (cs.getD i bY).low/\ku (cs.getD i bY).up)/\rd (l.ad i).low<=rd (cs.getD i bY).low/\rd (cs.getD i bY).up<=rd (l.ad i).up)
noncomputable def de(l:ar)(cs:List a1):ar:=⟨cs.map (eE (cB l)),l.rows⟩
theorem eU.same(h:eU l cs):tT l cs:=⟨h.len,λi a=>⟨(h.c i a).1,(h.c i a).2.1⟩⟩
theorem wH{t:Bool}{i:Nat}(a:i<cs.length):(cs.map (eE t)).getD i bY=eE t (cs.getD i bY):=by
 grind
theorem IX{i:Nat}(a:i<cs.length):(de l cs).ad i=eE (cB l) (cs.getD i bY):=wH a
theorem rO:(de l cs).a.length=cs.length:=by simp[de]
theorem eU.ok(h:eU l cs):kC (db l) (cs.map (eE (cB l))):=by
 refine⟨by simp[p1,h.len],λi a=>?_⟩;have a:i<cs.length:=by simpa using a
 have b:i<l.a.length:=by rw[<-h.len];exact a
 obtain⟨_,c,d,e⟩:=h.c i a;rw[wH a,wJ b,vY,vY,oB,oC,oB,oC];refine⟨?_,c,d,λa=>(e a).2.1⟩;unfold eE;grind
theorem eU.fM(a:jq (db l))(h:eU l cs):c5 (de l cs):=h.ok.fM a.s
theorem uk{c:a1}:h9 c=true↔isNum c.cost=true/\(c.low=[]∨isNum c.low=true)/\(c.up=[]∨isNum c.up=true)/\(c.low=[]∨c.up=[]∨rd c.low<=rd c.up):=by
 unfold h9;grind
theorem uL{rows:List b9}:(⟨cs,rows⟩:ar).I=true↔cs.length<=100/\rows.length<=440/\(∀c∈cs,h9 c=true)/\∀r∈rows,iM r cs.length=true:=by
 unfold ar.I;grind
theorem Y8:isNum [48]=true:=by rw[<-xa];exact(nx pA).isNum
theorem N6{t:Bool}{c:a1}(h:h9 c=true):h9 (eE t c)=true:=by
 rw[uk]at h|-;rw[oB,oC];refine⟨?_,h.2⟩;unfold eE;split
 ·exact Y8
 ·exact h.1
theorem Qy(h:l.I=true):(db l).I=true:=by
 obtain⟨a,b,d,e⟩:=(uL (cs:=l.a) (rows:=l.rows)).1 h;refine uL.2 ⟨by simpa using a,b,λc f=>?_,by simpa using e⟩;obtain⟨c,g,rfl⟩:=gl.1 f;exact N6 (d c g)
theorem eU.root(a:nr l)(d:l.I=true)(e:nV l=false):eU l l.a:=by
 refine⟨rfl,λ_ c=>⟨rfl,rfl,λ_=>⟨rfl,rfl⟩,λf=>?_⟩⟩;have b:=cX (ar.kc c);have c:=a.b _ b;have a:=List.any_eq_false.1 e _ b;simp[f]at a;obtain⟨_,e,f,_⟩:=uk.1 (uJ d b);exact⟨⟨e.resolve_left a.1,f.resolve_left a.2⟩,⟨.short a.1 c.1,.short a.2 c.2⟩,kW,kW⟩
theorem eU.up(h:eU l cs){i:Nat}{v:Rat}(c:i<cs.length)(a:kv (cs.getD i bY) v):eU l (h2 cs i (bk (ec v))):=by
 refine⟨by simp[h2,h.len],λj b=>?_⟩;have d:j<cs.length:=by simpa [h2]using b
 clear b;have b:=d;unfold h2;rw[pX c];by_cases e:j=i
 ·subst e;rw[aL rfl];obtain⟨d,c,_,f⟩:=h.c j b;have g:(l.ad j).int=true:=c.symm.trans a.i;obtain⟨⟨i,_⟩,⟨k,_⟩,m,n⟩:=f g;refine⟨d,c,λe=>(by grind),λ_=>⟨⟨i,a.bI.1.isNum⟩,⟨k,O0 a.c0 a.b'⟩,m,?_⟩⟩;show rd (bk (ec v))<=_;rw[a.bI.1.rd];exact Rat.le_trans (Rat.floor_le v) (Rat.le_trans a.az n)
 ·rw[aw e];exact h.c j b
theorem eU.low(h:eU l cs){i:Nat}{v:Rat}(c:i<cs.length)(a:kv (cs.getD i bY) v):eU l (ig cs i (bk (ec v+1))):=by
 refine⟨by simp[ig,h.len],λj b=>?_⟩;have d:j<cs.length:=by simpa [ig]using b
 clear b;have b:=d;unfold ig;rw[pX c];by_cases e:j=i
 ·subst e;rw[aL rfl];obtain⟨d,c,_,f⟩:=h.c j b;have g:(l.ad j).int=true:=c.symm.trans a.i;obtain⟨⟨_,i⟩,⟨_,k⟩,m,n⟩:=f g;refine⟨d,c,λe=>(by grind),λ_=>⟨⟨a.bI.2.isNum,i⟩,⟨NX a.c0 a.b' a.d,k⟩,?_,n⟩⟩;show _<=rd (bk (ec v+1));rw[a.bI.2.rd];exact Rat.le_trans m (Rat.le_trans a.ah (iJ (Qm v)))
 ·rw[aw e];exact h.c j b
theorem GP{rows:List b9}{fF:List a1}(aY:fF.length=cs.length)(h:∀i,i<cs.length->((fF.getD i bY).low≠[]->(cs.getD i bY).low≠[]/\rd (fF.getD i bY).low<=rd (cs.getD i bY).low)/\((fF.getD i bY).up≠[]->(cs.getD i bY).up≠[]/\rd (cs.getD i bY).up<=rd (fF.getD i bY).up)){x:Nat->Rat}(f:h4 ⟨cs,rows⟩ x):h4 ⟨fF,rows⟩ x:=by
 refine⟨λj a=>?_,λj a=>?_⟩
 ·have a:j<cs.length:=by rw[<-aY];exact a
  obtain⟨d,g⟩:=f.c j a;obtain⟨b,c⟩:=h j a;exact⟨λe=>Rat.le_trans (b e).2 (d (b e).1),λe=>Rat.le_trans (g (c e).1) (c e).2⟩
 ·have e:gz (⟨fF,rows⟩:ar) x j=gz (⟨cs,rows⟩:ar) x j:=by
   show aS (λq=>hs ((⟨cs,rows⟩:ar).row j).G q*x q) fF.length=_;rw[aY];rfl
  rw[e];exact f.r j a
theorem GQ{x:Nat->Rat}:h4 (de l cs) x↔h4 ⟨cs,l.rows⟩ x:=by
 have a:(cs.map (eE (cB l))).length=cs.length:=by simp
 constructor
 ·exact GP a.symm λ_ b=>by
   rw[wH (by simpa using b),oB,oC];grind
 ·exact GP a λ_ a=>by
   rw[wH a,oB,oC];grind
theorem eU.fits(h:eU l cs){x:Nat->Rat}(f:h4 ⟨cs,l.rows⟩ x):h4 l x:=by
 refine GP (fF:=l.a) h.len.symm (λi a=>?_) f;obtain⟨_,_,_,b⟩:=h.c i a;show((l.ad i).low≠[]->_/\rd (l.ad i).low<=_)/\((l.ad i).up≠[]->_/\_<=rd (l.ad i).up)
 cases e:(l.ad i).int with
 | false=>
   grind
 | true=>
   obtain⟨⟨a,c⟩,_,d,f⟩:=b e;exact⟨λ_=>⟨nL a,d⟩,λ_=>⟨nL c,f⟩⟩
theorem eU.Oe(h:eU l cs)(k:l.I=true)(m:(de l cs).I=false):cs.any ju=true:=by
 apply o3;intro b;have b:∀c∈cs,ju c=false:=by simpa using b
 obtain⟨m,n,o,p⟩:=(uL (cs:=l.a) (rows:=l.rows)).1 k;have:(de l cs).I=true:=by
  refine uL.2 ⟨by simpa [h.len]using m,n,λc q=>?_,λr k=>by simpa [h.len]using p r k⟩;obtain⟨c,e,rfl⟩:=gl.1 q;have a:=b c e;obtain⟨i,f,rfl⟩:=ux (d:=bY) e;refine N6 (uk.2 ?_);obtain⟨b,_,s,t⟩:=h.c i f;obtain⟨g,u,v,w⟩:=uk.1 (o _ (cX (ar.kc (aa:=l) (i:=i) (by rw[<-h.len];exact f))));rw[b]
  cases j:(l.ad i).int with
  | false=>
    obtain⟨b,c⟩:=s j;rw[b,c];exact⟨g,u,v,w⟩
  | true=>
    obtain⟨⟨b,c⟩,_⟩:=t j;refine⟨g,.inr b,.inr c,.inr (.inr ?_)⟩;unfold ju at a;rw[b,c]at a;simp only[Bool.true_and,decide_eq_false_iff_not]at a;exact fy.1 a
 grind
theorem eU.NG(f:jq (db l))(h:eU l cs)(e:(de l cs).I=true){a:cW}(g:fZ (de l cs) a)(b7:a.st=1){i:Nat}(d:kE (db l).a a.x=some i):i<cs.length/\kv (cs.getD i bY) (bU a.x i):=by
 obtain⟨b,c,l⟩:=Fk d;rw[p1]at b;have a:i<cs.length:=by rw[h.len];exact b
 rw[BK,wJ b,vY]at c;obtain⟨_,m,_,d⟩:=h.c i a;obtain⟨⟨j,k⟩,_,_⟩:=d c;have d:=(g.ga (h.fM f) e).1;unfold ga at d;rw[aL b7]at d;simp only[bK]at d;obtain⟨n,o⟩:=(uv e d.2.2.2.2.1).c i (by rw[rO];exact a);rw[IX a,oB,oC]at*
 obtain⟨d,p⟩:=JA f.s h.ok e g b7 (i:=i) (by simpa using a) (by rw[wJ b,vY];exact c);exact⟨a,⟨m.trans c,j,k,n (nL j),o (nL k),l,d,p⟩⟩
def mf(l:ar)(a:Option Rat)(cs:List a1)(d:List (List UInt8)):Prop:=
 ((de l cs).I=false/\d=[])∨((de l cs).I=true/\d=(eo (de l cs)).d/\((eo (de l cs)).st≠1∨∃u,a=some u/\u<=rd (eo (de l cs)).val))
theorem mf.mono{v aQ:Option Rat}{d:List (List UInt8)}(h:mf l v cs d)(a:∀u,v=some u->∃a,aQ=some a/\a<=u):mf l aQ cs d:=by
 rcases h with h | ⟨a,b,_⟩
 ·exact .inl h
 ·refine .inr ⟨a,b,?_⟩;grind
def MR(l:ar)(s:bV)(k:Nat)(cs:List a1)(d:List (List UInt8)):Prop:=eU l cs/\((k,cs.map (eE (cB l)))∈s.todo∨k∉s.todo.map Prod.fst/\mf l s.val cs d)
structure pB(l:ar)(u:Rat)(a:cW):Prop where
 st:a.st=1
 v:a.val=bk u
 r:rd a.val=u
 f:fU (db l) a.x=true
 w:jm (db l) a.x=true
 c:gy (db l) a.x=some u
 d:a.d=[]
 y:a.r=[]
 s:∀s∈a.x,s.length<=10000
 l:a.val.length<=10000
structure ot(l:ar)(s:bV):Prop where
 ex:∃t:cQ,t.rt=0/\t.B.Nodup/\(∀j,j∈t.B↔j<s.tree.length)/\ee s.tree (MR l s) t l.a
 ao:(s.todo.map Prod.fst).Nodup
 ag:∀x∈s.todo,s.tree[x.1]? = some fs
 aK:s.val=none->s.L=⟨2,[],[],[],[]⟩
 c0:∀u,s.val=some u->pB l u s.L
theorem ee.find{a:List cz}{P:Nat->List a1->List (List UInt8)->Prop}{k:Nat}:∀{t:cQ} {cs:List a1},ee a P t cs->k∈t.gQ->∃b x,a[k]? = some x/\P k b x.d
 | .ag j,cs,h,c=>by
   obtain rfl:k=j:=mV.1 c;obtain⟨x,_,_,_⟩:=h;grind
 | .aH _ _ _,cs,h,c=>by
   obtain⟨x,_,_,_,_,_,_,_,_,_,_,_,d,e⟩:=h
   rcases fc.1 c with h | h
   ·exact ee.find d h
   ·exact ee.find e h
theorem PF{α β:Type}{L:List (α×β)}(b:(L.map Prod.fst).Nodup){i j:Nat}{x y:α×β}(c:L[i]? = some x)(d:L[j]? = some y)(e:x.1=y.1):i=j:=by
 have a:(L.map Prod.fst)[i]? = some x.1:=by rw[jd,c];rfl
 have c:(L.map Prod.fst)[j]? = some y.1:=by rw[jd,d];rfl
 exact(List.getElem?_inj (hZ.1 a).1 b).1 (by rw[a,c,e])
theorem eU.L(d:jq (db l))(n:l.I=true)(h:eU l cs)(b:(de l cs).I=true){a:cW}(e:fZ (de l cs) a)(b7:a.st=1)(f:kE (db l).a a.x=none):pB l (rd a.val) ⟨1,a.val,a.x,[],[]⟩:=by
 obtain⟨j,o⟩:=DO (h.fM d) b e b7;obtain⟨i,p,q⟩:=Tc (h.fM d) b e b7;have c:=(e.ga (h.fM d) b).1;unfold ga at c;rw[aL b7]at c;simp only[bK,cP]at c;obtain⟨e,_,d,_,r,_⟩:=c;have k:=Qy n;rw[rO,h.len]at i;have g:dJ (db l) a.x (db l).a.length=true:=by
  unfold dJ;rw[k,p,p1];simpa using i
 have s:=uv b r;obtain⟨v,m⟩:=n0.1 e;rw[m]at d;have d:bk v=a.val:=d;have t:rd a.val=v:=by
  have:=s3 j;rw[<-d]at this|-;exact xb this
 have u:(db l).P (bU a.x)=(de l cs).P (bU a.x):=by
  show aS (λi=>rd ((db l).ad i).cost*bU a.x i) (db l).a.length=aS (λi=>rd ((de l cs).ad i).cost*bU a.x i) (de l cs).a.length;rw[p1,rO,h.len];refine c9 λi b=>?_;have c:i<cs.length:=by rw[h.len];exact b
  have:=(h.ok.c i (by simpa using c)).1;rw[show((de l cs).ad i).cost=((db l).ad i).cost from this]
 refine⟨rfl,(s3 j).symm,rfl,?_,?_,?_,rfl,rfl,q,o⟩
 ·unfold fU;rw[g,Bool.true_and];refine(y4 k).2 ?_;have:=h.fits (GQ.1 s);exact(GQ (cs:=l.a)).2 this
 ·unfold jm;rw[g,Bool.true_and];refine AA.2 λi b=>?_;have c:∀i,i<(db l).a.length->(((db l).a.getD i bY).int&&decide ((bU a.x i).den≠1))=false:=by
   intro i b;unfold kE at f;rw[List.find?_range_eq_none]at f;have:=f i b;rw[ir]at this;exact this
  have:=c i b;rw[BK]at this;grind
 ·unfold gy;show(if dJ (db l) a.x (db l).a.length=true then some ((db l).P (bU a.x)) else none)=some (rd a.val);rw[aL g,u,<-JU m,t]
theorem ot.look(F:jq (db l))(ag:l.I=true){s:bV}(h:ot l s){p:Nat}{x:Nat×List a1}(B:s.todo[p]? = some x):ot l ((s.del p).look (db l) x.1 x.2):=by
 obtain⟨V,W,X,Y,G⟩:=h.ex;obtain⟨k,Q⟩:=x;have P:=cX B;have r:s.tree[k]? = some fs:=h.ag _ P;have Z:k<s.tree.length:=(hZ.1 r).1;have t:fs.ad<0:=by decide
 have aa:=G.leaf r t ((Y k).2 Z);have ah:∀y,y∈s.todo->y.1≠k->y∈(s.del p).todo:=λy b C=>by
  obtain⟨i,d⟩:=u5 b;refine List.mem_eraseIdx_iff_getElem?.2 ⟨i,λe=>C ?_,d⟩;grind
 have M:∀y,y∈(s.del p).todo->y∈s.todo/\y.1≠k:=λy b=>by
  obtain⟨i,C,d⟩:=List.mem_eraseIdx_iff_getElem?.1 b;exact⟨cX d,λe=>C (PF h.ao d B e)⟩
 have C:k∈s.todo.map Prod.fst:=gl.2 ⟨_,P,rfl⟩;have nk:k∉(s.del p).todo.map Prod.fst:=λe=>by
  grind
 have nj:∀j,j∉s.todo.map Prod.fst->j∉(s.del p).todo.map Prod.fst:=λj o e=>by
  grind
 have ai:((s.del p).todo.map Prod.fst).Nodup:=h.ao.sublist ((List.eraseIdx_sublist s.todo p).map Prod.fst);have N:∀cs c,MR l s k cs c->eU l cs/\cs.map (eE (cB l))=Q:=λcs c g=>by
  obtain⟨l,g | ⟨g,_⟩⟩:=g
  ·obtain⟨i,d⟩:=u5 g;have:=PF h.ao d B rfl;rw[this,B]at d;cases d;exact⟨l,rfl⟩
  grind
 obtain⟨f,_,_,ad⟩:=G.find aa;obtain⟨O,rfl⟩:=N _ _ ad;have ab:∀cs,cs.map (eE (cB l))=f.map (eE (cB l))->de l cs=de l f:=λcs e=>by unfold de;rw[e]
 have H:∀(a:bV) (B:cz),a.todo=(s.del p).todo->a.tree[k]? = some B->B.ad<0->a.tree.length=s.tree.length->(∀j,j≠k->∀y,s.tree[j]? = some y->a.tree[j]? = some y)->(∀u,s.val=some u->∃C,a.val=some C/\C<=u)->mf l a.val f B.d->(a.val=none->a.L=⟨2,[],[],[],[]⟩)->(∀u,a.val=some u->pB l u a.L)->ot l a:=λa B P Q e3 _ ad e6 e7 e8 e9=>by
  refine⟨⟨V,W,X,λj=>by grind,G.JQ r t ad (λj cs c o _ g=>?_) (λcs g=>?_)⟩,by grind,λy b=>?_,e8,e9⟩
  ·refine⟨g.1,g.2.imp (λh=>?_) λh=>⟨by rw[P];exact nj j h.1,h.2.mono e6⟩⟩;grind
  ·obtain⟨d,_⟩:=N cs _ g;refine⟨B,Q,e3,d,.inr ⟨by rw[P];exact nk,?_⟩⟩;unfold mf at e7|-;grind
  ·rw[P]at b;obtain⟨d,i⟩:=M y b;exact ad _ i _ (h.ag y d)
 have R:∀u,s.val=some u->∃C,s.val=some C/\C<=u:=λu e=>⟨u,e,kW⟩;have aj:∀c,((s.del p).Z k c).tree[k]? = some ⟨-1,[],0,0,c⟩/\((s.del p).Z k c).tree.length=s.tree.length/\∀j,j≠k->∀y,s.tree[j]? = some y->((s.del p).Z k c).tree[j]? = some y:=λc=>by
  have e:((s.del p).Z k c).tree=s.tree.set k {s.tree.getD k fs with d:=c}:=rfl;have Q:s.tree.getD k fs=fs:=by rw[e5,r];rfl
  rw[e,Q];exact⟨by rw[tk Z];rfl,by simp,λj o y b=>by grind⟩
 show ot l ((s.del p).look (db l) k (f.map (eE (cB l))));unfold bV.look;have B:(⟨f.map (eE (cB l)),(db l).rows⟩:ar)=de l f:=rfl;rw[B];by_cases m:(de l f).I=true
 ·rw[aL m];have S:=pg (O.fM F) m;obtain⟨c,D⟩:∃c,c=(eo (de l f)).d:=⟨_,rfl⟩;obtain⟨I,E,J⟩:=aj c;by_cases w:(eo (de l f)).st=1
  ·rw[aL w,<-D];by_cases d:nB (s.del p).val (rd (eo (de l f)).val)=true
   ·rw[aL d];refine H _ _ rfl I (show(-1:Int)<0 by decide) E J R (.inr ⟨m,D,.inr ?_⟩) h.aK h.c0;have d:nB s.val (rd (eo (de l f)).val)=true:=d;unfold nB at d
    cases e:s.val with
    | none=>grind
    | some u=>
      rw[e]at d;exact⟨u,e,by grind⟩
   ·rw[aw d];have d:nB s.val (rd (eo (de l f)).val)=false:=lz.2 d
    cases x:kE (db l).a (eo (de l f)).x with
    | none=>
      simp only;refine H _ _ rfl I (show(-1:Int)<0 by decide) E J (λu e=>⟨_,rfl,?_⟩) (.inr ⟨m,D,.inr ⟨_,rfl,kW⟩⟩) (λe=>by cases e) λu e=>?_
      ·unfold nB at d;grind
      ·cases e;exact O.L F ag m S w x
    | some i=>
      simp only;obtain⟨K,bv⟩:=O.NG F m S w x;obtain⟨v,hv⟩:∃v,v=bU (eo (de l f)).x i:=⟨_,rfl⟩;rw[<-hv]at bv|-;obtain⟨n,T⟩:∃n,n=s.tree.length:=⟨_,rfl⟩;obtain⟨a,q⟩:∃a,a=((s.del p).Z k c).branch k (f.map (eE (cB l))) i v:=⟨_,rfl⟩;rw[<-q];obtain⟨A,U⟩:∃d,d=((s.del p).Z k c).tree:=⟨_,rfl⟩;rw[<-U]at I E J;have d:A.length=n:=by rw[E,T]
      have u:a.tree=((A++[fs])++[fs]).set k ⟨(i:Int),bk (ec v),(A.length:Int),(A.length:Int)+1,[]⟩:=by rw[q,U];rfl
      have L:a.todo=((s.del p).todo++[(n,h2 (f.map (eE (cB l))) i (bk (ec v)))])++[(n+1,ig (f.map (eE (cB l))) i (bk (ec v+1)))]:=by
       rw[q];show((s.del p).todo++[(((s.del p).Z k c).tree.length,_)])++[((((s.del p).Z k c).tree++[fs]).length,_)]=_;rw[<-U,o4,d];rfl
      have ae:a.val=s.val:=by rw[q];rfl
      have af:a.L=s.L:=by rw[q];rfl
      have ak:a.tree.length=n+2:=by rw[u];simp[d]
      have al:k<n:=by omega
      have g1:a.tree[k]? = some ⟨(i:Int),bk (ec v),(A.length:Int),(A.length:Int)+1,[]⟩:=by rw[u,tk (by grind)]
      have g2:a.tree[n]? = some fs:=by
       rw[u,o2 (by omega),hY (by simp[d]),iq (by omega),d];simp
      have g3:a.tree[n+1]? = some fs:=by
       rw[u,o2 (by omega),iq (by simp[d])];simp[d]
      have g4:∀j,j≠k->∀y,s.tree[j]? = some y->a.tree[j]? = some y:=λj o y b=>by
       grind
      have an:∀y,y∈(s.del p).todo->y∈a.todo:=λy b=>by
       grind
      have ao:∀y,y∈s.todo->y.1<n:=λy b=>by rw[T];exact(hZ.1 (h.ag y b)).1
      have aq:∀{cs:List a1},i<cs.length->(h2 cs i (bk (ec v))).map (eE (cB l))=h2 (cs.map (eE (cB l))) i (bk (ec v)):=λK=>by
       unfold h2;rw[List.map_set,wH K];congr 1;unfold eE;split<;>rfl
      have d:∀{cs:List a1},i<cs.length->(ig cs i (bk (ec v+1))).map (eE (cB l))=ig (cs.map (eE (cB l))) i (bk (ec v+1)):=λK=>by
       unfold ig;rw[List.map_set,wH K];congr 1;unfold eE;split<;>rfl
      have ar:∀j,j∈a.todo.map Prod.fst↔j∈(s.del p).todo.map Prod.fst∨j=n∨j=n+1:=λj=>by
       rw[L];simp
      have a:=cQ.Hg (n:=n) X aa;refine⟨⟨V.jK k n,cQ.Ae.trans W,?_,λj=>?_,?_⟩,?_,λy b=>?_,by rw[ae,af];exact h.aK,by rw[ae,af];exact h.c0⟩
      ·refine a.symm.nodup ?_;grind
      ·rw[a.mem_iff,hH,hH,Y j,ak,T];omega
      ·refine G.split (n:=n) (i:=i) (v:=v) (y:=fs) (z:=fs) r t g4 (λj cs c o _ g=>?_) al g1 rfl rfl (by grind) (by grind) g2 t g3 t λcs g=>?_
       ·refine⟨g.1,g.2.imp (λh=>an _ (ah _ h o)) λh=>⟨λe=>?_,by grind⟩⟩;rcases(ar j).1 e with e | e | e
        ·grind
        ·omega
        ·omega
       ·obtain⟨d,h⟩:=N cs _ g;have g:(de l cs).I=true:=by rw[ab cs h];exact m
        have q:fZ (de l cs) (eo (de l f)):=by rw[ab cs h];exact S
        obtain⟨a,c⟩:=d.NG F g q w x;rw[<-hv]at c;refine⟨a,c,⟨d.up a c,.inl ?_⟩,⟨d.low a c,.inl ?_⟩⟩
        ·rw[L,aq a,h];exact fc.2 (.inl (fc.2 (.inr (mV.2 rfl))))
        grind
      ·rw[L];have f:∀j,j∈(s.del p).todo.map Prod.fst->j<n:=λj o=>by
        obtain⟨y,b,e⟩:=gl.1 o;rw[<-e];exact ao y (M y b).1
       rw[List.map_append,List.map_append,List.nodup_append,List.nodup_append];refine⟨⟨ai,by simp,λa c d x e=>?_⟩,by simp,λa c d x e=>?_⟩
       ·have e:=f a c;have a:d=n:=by simpa using x
        omega
       grind
      ·rw[L]at b
       rcases fc.1 b with b | b
       ·rcases fc.1 b with b | b
        ·obtain⟨a,c⟩:=M y b;exact g4 _ c _ (h.ag y a)
        ·rw[mV.1 b];exact g2
       grind
  ·rw[aw w,<-D];exact H _ _ rfl I (show(-1:Int)<0 by decide) E J R (.inr ⟨m,D,.inl w⟩) h.aK h.c0
 ·rw[aw m];exact H _ fs rfl r t rfl (λ_ _ _ h=>h) R (.inl ⟨by simpa using m,rfl⟩) h.aK h.c0
end
def dt(q:Rat)(k:Nat):Prop:=dP q (bS k)
theorem dt.mul{p q:Rat}{a b c:Nat}(h:dt p a)(g:dt q b)(e:a+b=c):dt (p*q) c:=by
 unfold dt;rw[<-pn e];exact dP.mul h g
theorem abN(k:Nat):bS k+bS k<=bS (k+1):=by
 have h:bS k*bS 1=bS (k+1):=pn rfl;have:bS 1=10:=by rw[fQ]
 grind
theorem dt.add{p q:Rat}{a b c:Nat}(h:dt p a)(g:dt q b)(aI:a<=c)(d:b<=c):dt (p+q) (c+1):=
 (dP.add h g).mono (a8 (Nat.add_le_add (j4 (h:=aI)) (j4 (h:=d))) (abN c))
theorem dt.mono{p:Rat}{a b:Nat}(h:dt p a)(c:a<=b):dt p b:=dP.mono h (j4 (h:=c))
theorem dt.neg{p:Rat}{a:Nat}(h:dt p a):dt (-p) a:=by
 obtain⟨z,rfl,_⟩:=h;exact⟨-z,(Rat.intCast_neg z).symm,by grind⟩
theorem dt.sub{p q:Rat}{a b c:Nat}(h:dt p a)(g:dt q b)(aI:a<=c)(d:b<=c):dt (p-q) (c+1):=by
 rw[Rat.sub_eq_add_neg];exact h.add g.neg aI d
theorem dt.sum{f:Nat->Rat}{n a:Nat}(b:n<=10)(h:∀i,i<n->dt (f i) a):dt (aS f n) (a+1):=by
 refine(dP.sum h).mono ?_;have e:bS 1*bS a=bS (a+1):=pn (by omega);have:bS 1=10:=by rw[fQ]
 rw[<-e,this];exact fV _ b
theorem dt.nat{N k:Nat}(h:N<=bS k):dt (N:Rat) k:=⟨(N:Int),(mU _).symm,by simpa using h⟩
theorem dt.den{q:Rat}{a k Q:Nat}(b:bI (bS a) q)(c:q.den∣Q)(d:Q<=bS k):dt (q*(Q:Rat)) (a+k):=by
 unfold dt;rw[<-pn (rfl:a+k=a+k)];exact yT b c d
structure lN(aa:ar):Prop where
 n:aa.a.length<=6
 m:aa.rows.length<=6
 c:∀c∈aa.a,c.low.length<=20/\c.up.length<=20/\c.cost.length<=20
 r:∀r∈aa.rows,r.rhs.length<=30/\r.G.length<=1000/\∀c∈r.G,c.v.length<=20
section
variable{aa:ar}
theorem lN.fM(h:lN aa):c5 aa:=⟨h.n,by have:=h.m;omega,λc a=>by have:=h.c c a;omega,λr b=>⟨(h.r r b).1,by have:=(h.r r b).2.1;omega,λc a=>by have:=(h.r r b).2.2 c a;omega⟩⟩
theorem qs{l:List UInt8}{k:Nat}(h:l.length<=k):bI (bS k) (rd l):=by rw[fQ];exact tv h
theorem Np(k:Nat):bI (bS k) 0:=nx (As k)
theorem lN.ad(h:lN aa)(j:Nat):bI (bS 20) (rd (aa.ad j).low)/\bI (bS 20) (rd (aa.ad j).up)/\bI (bS 20) (rd (aa.ad j).cost):=by
 by_cases a:j<aa.a.length
 ·obtain⟨b,c,d⟩:=h.c _ (cX (ar.kc a));exact⟨qs b,qs c,qs d⟩
 ·have:aa.ad j=⟨[],[],[],[],false⟩:=by rw[ar.ad,e5,hc (by omega)];rfl
  rw[this];exact⟨qs (by simp),qs (by simp),qs (by simp)⟩
theorem lN.row(h:lN aa)(i:Nat):bI (bS 30) (rd (aa.row i).rhs)/\∀j,bI (bS 20) (aa.j.A i j):=by
 have a:(aa.row i).rhs.length<=30/\∀c∈(aa.row i).G,c.v.length<=20:=by
  by_cases b:i<aa.rows.length
  ·obtain⟨_,_,_⟩:=h.r _ (cX (ar.rowAt b));grind
  ·have:aa.row i=⟨[],1,[],[],[]⟩:=by rw[ar.row,e5,hc (by omega)];rfl
   grind
 refine⟨qs a.1,λj=>?_⟩
 rcases Dx (l:=(aa.row i).G) (f:=λ_=>0) j with e | ⟨c,b,e⟩
 ·show bI _ (hs _ j);rw[hs,e];exact Np 20
 ·show bI _ (hs _ j);rw[hs,e];exact qs (a.2 c b)
end
structure ld(l:ar)(cs:List a1):Prop extends tT l cs where
 b:∀c∈cs,c.low.length<=20/\c.up.length<=20
theorem ld.set{l:ar}{cs:List a1}(h:ld l cs){i:Nat}{c:a1}(b:i<cs.length)(b7:c.cost=(cs.getD i bY).cost)(cH:c.int=(cs.getD i bY).int)(e:c.low.length<=20)(e:c.up.length<=20):ld l (cs.set i c):=
 ⟨h.totT.set b b7 cH,λd a=>by
  rcases List.mem_or_eq_of_mem_set a with a | rfl
  ·exact h.b d a
  grind⟩
theorem ld.fM{l:ar}{cs:List a1}(aY:lN l)(h:ld l cs):lN ⟨cs,l.rows⟩:=by
 refine⟨by show cs.length<=6;rw[h.len];exact aY.n,aY.m,λ_ a=>?_,aY.r⟩;obtain⟨i,b,rfl⟩:=ux (d:=bY) a;have c:=(h.c i b).1;have c:=h.b _ a;have a:=(aY.c _ (cX (ar.kc (aa:=l) (i:=i) (by rw[<-h.len];exact b)))).2.2;grind
section
variable{l:ar}{cs:List a1}
theorem h6.ex{rows:List b9}{a:List cz}{c:Rat}{all:Bool}{k:Nat}{s d:List Bool}{b:Bool}(h:h6 rows a c all k cs s b d):∃x,a[k]? = some x:=by
 cases h<;>exact⟨_,by assumption⟩
theorem zI(a:cB l=false):de l cs=⟨cs,l.rows⟩:=by
 unfold de;have:cs.map (eE (cB l))=cs:=by
  rw[a];have:eE false=id:=by funext c;rfl
  rw[this,List.map_id]
 rw[this]
theorem QU(a:jq (db l))(h:eU l cs)(b:(de l cs).I=true):(eo (de l cs)).st=1∨(eo (de l cs)).st=2∨(eo (de l cs)).st=3:=by
 have c:=pg (h.fM a) b;have d:=(c.ga (h.fM a) b).1;unfold ga at d;grind
theorem QT(d:jq (db l))(aY:c5 l)(e:l.I=true)(h:eU l cs)(f:(de l cs).I=true):(eo (de l cs)).st≠3:=by
 intro _;have g:=pg (h.fM d) f;obtain⟨_,k⟩:=F8 (g.ga (h.fM d) f).1
 rcases k with⟨x,y,b,s,_⟩ | ⟨y,b,s,_⟩ | ⟨x,r,s,Ck,rq,_⟩
 ·grind
 ·grind
 cases a:cB l with
 | true=>
   have b:(de l cs).P r=0:=by
    refine ng λi b=>?_;have b:i<cs.length:=by rw[<-rO (l:=l)];exact b
    rw[IX b,a];show rd [48]*_=0;have:rd [48]=0:=by rw[<-xa];exact(nx pA).rd
    rw[this,Rat.zero_mul]
   have:=rq.n;grind
 | false=>
   rw[zI a]at Ck rq;have m:=h.fits Ck;have n:om l r:=by
    refine⟨λj f=>?_,λi o=>?_,?_⟩
    ·have d:j<cs.length:=by rw[h.len];exact f
     obtain⟨b,c⟩:=rq.c j d;obtain⟨_,_,_,p⟩:=h.c j d;have b:(cs.getD j bY).low≠[]->0<=r j:=b;have c:(cs.getD j bY).up≠[]->r j<=0:=c
     cases q:(l.ad j).int with
     | false=>
       grind
     | true=>
       obtain⟨⟨d,f⟩,_⟩:=p q;exact⟨λ_=>b (nL d),λ_=>c (nL f)⟩
    ·have b:gz l r i=gz (⟨cs,l.rows⟩:ar) r i:=by
      show aS (λq=>hs (l.row i).G q*r q) l.a.length=aS (λq=>hs ((⟨cs,l.rows⟩:ar).row i).G q*r q) cs.length;rw[h.len];rfl
     rw[b];exact rq.r i o
    ·have:=rq.n;rwa [SQ h.same]at this
   have b:=pg aY e;obtain⟨_,s⟩:=F8 (b.ga aY e).1
   rcases s with⟨xT,LM,cC,jJ,_,Fi,_⟩ | ⟨LM,cC,jJ,Fi,oJ,_⟩ | ⟨xT,bG,jJ,_⟩
   ·exact wS n Fi
   ·have:=Az m Fi;grind
   ·unfold cB at a;grind
theorem NB(h:eU l cs)(g:l.I=true)(c:(de l cs).I=true){d:List (List UInt8)}:eX ⟨cs,l.rows⟩ d false=eX (de l cs) d false:=by
 have e:(⟨cs,l.rows⟩:ar).I=true:=by
  obtain⟨j,k,m,n⟩:=uL.1 c;obtain⟨_,_,o,_⟩:=(uL (cs:=l.a) (rows:=l.rows)).1 g;refine uL.2 ⟨by simpa using j,k,λ_ a=>?_,by simpa using n⟩;have:=uk.1 (m _ (List.mem_map_of_mem a));rw[oB,oC]at this;obtain⟨i,f,rfl⟩:=ux (d:=bY) a;have a:=(uk.1 (o _ (cX (ar.kc (aa:=l) (i:=i) (by rw[<-h.len];exact f))))).1;exact uk.2 ⟨by rw[(h.c i f).1];exact a,this.2⟩
 have p:∀b,lJ (⟨cs,l.rows⟩:ar) false (bU d) b↔lJ (de l cs) false (bU d) b:=λb=>by
  have g:∀j,gb (⟨cs,l.rows⟩:ar) false (bU d) j=gb (de l cs) false (bU d) j:=λj=>rfl;have f:∀j,j<cs.length->((de l cs).ad j).low=((⟨cs,l.rows⟩:ar).ad j).low/\((de l cs).ad j).up=((⟨cs,l.rows⟩:ar).ad j).up:=λj a=>by
   rw[IX a,oB,oC];exact⟨rfl,rfl⟩
  constructor
  ·rintro⟨d,_,g⟩;refine⟨d,λj a=>?_,?_⟩
   ·have a:j<cs.length:=by rw[<-rO (l:=l)];exact a
    grind
   ·rw[g];congr 1;show aS _ cs.length=aS _ (de l cs).a.length;rw[rO];exact c9 λj a=>by grind
  ·rintro⟨d,g,h⟩;refine⟨d,λj a=>?_,?_⟩
   ·have a:j<cs.length:=a;rw[<-(f j a).1,<-(f j a).2];exact g j (by rw[rO];exact a)
   ·rw[h];congr 1;show aS _ (de l cs).a.length=aS _ cs.length;rw[rO];exact c9 λj a=>by grind
 have a:dJ (⟨cs,l.rows⟩:ar) d l.rows.length=dJ (de l cs) d l.rows.length:=by
  unfold dJ;rw[e,c]
 unfold eX;show(if dJ (⟨cs,l.rows⟩:ar) d l.rows.length=true then _ else none)=(if dJ (de l cs) d l.rows.length=true then _ else none);rw[a];split
 ·apply Option.ext;intro b;rw[yu e,yu c];exact p b
 ·rfl
theorem mf.shown(c:jq (db l))(aY:c5 l)(f:l.I=true){g:Option Rat}{d:List (List UInt8)}(h:eU l cs)(j:mf l g cs d){i:Rat}{all:Bool}(b:g=none∨g=some i/\cB l=false/\all=false):k1 l.rows i all cs d=true:=by
 unfold k1
 rcases j with⟨fw,_⟩ | ⟨fw,rfl,cD⟩
 ·rw[h.Oe f fw];rfl
 ·have g:=pg (h.fM c) fw;have a:=(g.ga (h.fM c) fw).1
  rcases QU c h fw with s | s | s
  ·rcases cD with cD | ⟨_,e,h⟩
   ·exact absurd s cD
   rcases b with b | ⟨b,d,rfl⟩
   ·rw[b]at e;cases e
   rw[b]at e;cases e;rw[zI d]at a h|-;unfold ga at a;rw[aL (by rw[zI d]at s;exact s)]at a;grind
  ·unfold ga at a;rw[aw (by omega),aL s]at a;simp only[bK,cP]at a;obtain⟨b,d,_⟩:=a;rw[NB h f fw,b,hd d];simp
  ·exact absurd s (QT c aY f h fw)
theorem mf.low(b:jq (db l))(aY:c5 l)(e:l.I=true){c:Option Rat}{d:List (List UInt8)}(h:eU l cs)(j:mf l c cs d){f:Rat}{all:Bool}(k:(∃u,c=some u)->cB l=false)(g:k1 l.rows f all cs d=true):kB l cs f all:=by
 rcases j with⟨fw,_⟩ | ⟨fw,rfl,cD⟩
 ·exact Of (h.Oe e fw)
 ·have i:=pg (h.fM b) fw;have a:=(i.ga (h.fM b) fw).1
  rcases QU b h fw with s | s | s
  ·rcases cD with cD | ⟨u,c,_⟩
   ·grind
   have f:=k ⟨u,c⟩;have d:=(DO (h.fM b) fw i s).1;rw[zI f]at a s d g;refine Qc h.same (λf i=>?_) g;unfold ga at a;rw[aL s]at a;simp only[bK,cP]at a;obtain⟨_,_,_,c,_⟩:=a;rw[i]at c;have c:bk f=_:=c;rw[<-c]at d;exact xb (s3 d)
  ·unfold ga at a;rw[aw (by omega),aL s]at a;simp only[bK,cP]at a;obtain⟨c,d,_⟩:=a;rw[<-NB h e fw]at c d;exact QV c d
  ·exact absurd s (QT b aY e h fw)
theorem ot.run(c:jq (db l))(d:l.I=true){deep:Bool}{m:Nat}{s a:bV}{b:Bool}(h:hz (db l) deep m s a b):ot l s->b=true->ot l a/\a.todo=[]/\a.tree.length<=m:=by
 induction h with
 | done s _=>grind
 | jj s _ _=>grind
 | step s _ _ _ b _ _ ih=>intro h a;exact ih (h.look c d b) a
theorem ot.start(b:nr l)(c:l.I=true)(d:nV l=false):ot l (py.U (db l).a):=by
 refine⟨⟨.ag 0,rfl,by simp[cQ.B],λ_=>?_,⟨fs,rfl,by decide,.root b c d,.inl ?_⟩⟩,?_,λ_ a=>?_,λ_=>rfl,λ_ e=>by cases e⟩
 ·simp[cQ.B,bV.U,py]
 ·simp[bV.U,py,db]
 ·simp[bV.U,py]
 ·simp[bV.U,py]at a;subst a;rfl
structure x2(l:ar)(iN:bV):Prop where
 ex:∃t:cQ,t.rt=0/\t.B.Nodup/\(∀j,j∈t.B↔j<iN.tree.length)/\ee iN.tree (λ_ cs d=>eU l cs/\mf l iN.val cs d) t l.a
 n:iN.tree.length<=300
 aK:iN.val=none->iN.L=⟨2,[],[],[],[]⟩
 c0:∀u,iN.val=some u->pB l u iN.L
theorem sV(b:nr l)(c:l.I=true)(d:nV l=false){deep:Bool}{k:Int}{e:bV}(h:hz (db l) deep (lo k) (py.U (db l).a) e true):x2 l e:=by
 obtain⟨⟨⟨t,f,g,i,j⟩,_,_,l,m⟩,_,n⟩:=ot.run (b.ok d) c h (.start b c d) rfl;refine⟨⟨t,f,g,i,j.imp λk cs _ a=>⟨a.1,?_⟩⟩,a8 n QD,l,m⟩
 rcases a.2 with a | a
 ·grind
 ·exact a.2
theorem pB.fit(b:l.I=true){u:Rat}{a:cW}(h:pB l u a):pK l.rows l.a (bU a.x)/\fU l a.x=true/\jm l a.x=true:=by
 have c:=Qy b;have d:=(GQ (cs:=l.a)).1 (uv c h.f);have f:∀i,i<l.a.length->(l.ad i).int=true->(bU a.x i).den=1:=λi c e=>JX h.w i (by rw[p1];exact c) (by rw[wJ c,vY];exact e);have e:dJ l a.x l.a.length=true:=by
  have:=h.f;unfold fU at this;rw[bK]at this;obtain⟨a,g⟩:=CM this.1;unfold dJ;rw[g,b];rw[p1]at a;simpa using a
 refine⟨⟨d,f⟩,?_,?_⟩
 ·unfold fU;rw[e,Bool.true_and];exact(y4 b).2 d
 ·unfold jm;rw[e,Bool.true_and];refine AA.2 λi c=>?_;grind
theorem pB.cost(b:cB l=false){u:Rat}{a:cW}(h:pB l u a):l.P (bU a.x)=u/\gy l a.x=some u:=by
 have e:db l=l:=zI (cs:=l.a) b;have a:=h.c;rw[e]at a;exact⟨(JU a).symm,a⟩
end
section
variable{l:ar}{deep:Bool}{k:Int}{b:cW}{u:List cz}{e:Int}
theorem x2.low{a:bV}(b:jq (db l))(aY:c5 l)(c:l.I=true)(h:x2 l a){d:Rat}{all:Bool}(e:(∃u,a.val=some u)->C.cB l=false)(f:a.val=none∨a.val=some d/\C.cB l=false/\all=false):kB l l.a d all:=by
 obtain⟨_,_,_,_,a⟩:=h.ex;exact(a.imp λk _ _ a=>a.2.low b aY c a.1 e (a.2.shown b aY c a.1 f)).low
theorem iy.taken(d:nr l)(h:iy l deep k b u e)(j:e=0)(t:b.st≠4){c:Bool}(f:iU l b u c):c=true:=by
 cases h with
 | form _=>cases j
 | wide _ _=>cases j
 | jj _ _ _ _=>grind
 | cB k a e m c g=>
   have E:=sV d a e m
   cases h:k.val with
   | none=>rw[E.aK h]at g;cases g
   | some q=>
     obtain⟨_,_,_⟩:=(E.c0 q h).fit a;have g:=pg d.s a;have j:(eo l).st=3:=by unfold C.cB at c;simpa using c
     have c:=(g.ga d.s a).1;unfold ga at c;rw[aw (by omega),aw (by omega),aL j]at c;simp only[bK,cP]at c;have g:=c.2.1;have c:=g;unfold iL at c;rw[bK]at c;have n:=(z7 a).1 c.2;obtain⟨_,o⟩:=CM c.1;have b:oM l (eo l).r=true:=by
      unfold oM;rw[eA];intro i b;have b:=o6.1 b
      cases p:(l.ad i).int with
      | false=>rfl
      | true=>
        have c:=eU.root d a e;obtain⟨⟨a,e⟩,_⟩:=(c.c i b).2.2.2 p;obtain⟨c,g⟩:=n.c i b;have b:=c (nL a);have a:=g (nL e);have a:bU (eo l).r i=0:=by grind
        have b:i<(eo l).r.length:=by omega
        have c:isNum ((eo l).r.getD i [])=true:=by
         rw[e5,en b];exact(eA.1 o) _ (tn b)
        have b:=s3 c;have a:rd ((eo l).r.getD i [])=0:=a;rw[a,xa]at b;rw[<-b];simp
     unfold iU at f;grind
 | done a b i p q=>
   have E:=sV d b i p;have r:=d.ok i;obtain⟨t,n,s,o,u⟩:=E.ex;have g:0<a.tree.length:=(o 0).1 (by rw[<-n];exact t.nb);have i:=E.n;have v:∀{i:List UInt8} {j:Bool} {c:Bool},(isNum i=true∨j=true)->(a.val=none∨a.val=some (rd i)/\C.cB l=false/\j=false)->j5 l a.tree i j c->c=true:=λ{i j c} i w h=>by
    unfold j5 at h;rw[aL ⟨b,g,by omega,i⟩]at h;obtain⟨_,_,e,rfl⟩:=h;exact(u.imp λk _ _ c=>c.2.shown r d.s b c.1 w).VR n s o e
   cases m:a.val with
   | none=>
     have c:=E.aK m;unfold iU at f;grind
   | some d=>
     have B:=E.c0 d m;have c:C.cB l=false:=by
      cases e:C.cB l with
      | false=>rfl
      | true=>exact absurd ⟨e,B.st⟩ q
     obtain⟨_,k,x⟩:=B.fit b;obtain⟨_,h⟩:=B.cost c;have y:isNum a.L.val=true:=by
      cases e:isNum a.L.val with
      | true=>rfl
      | false=>
        have d:=e;rw[B.v]at e;have g:=Ja d;rw[B.r]at g;rw[g,(nx pA).isNum]at e;cases e
     unfold iU at f;rw[aL ⟨b,rfl⟩]at f;have b:a.L.st=1:=B.st;rw[aL b,aL ⟨by rw[h];rfl,by rw[h];exact B.v.symm,k,x,rfl⟩]at f;exact v (.inl y) (.inr ⟨by rw[m,B.r],c,rfl⟩) f
end
end Go.Dam.C
namespace Go.Dam.C
open Go Go.Dam
variable{X:aA}{pm cu:Perm}{H ab bX ai:ae}{n:Nat}
section
variable{l:ar}{a b:cW}{deep:Bool}{k:Int}{u:List cz}{e:Int}
theorem F1(h:ga l a=true)(b7:a.st=1):h4 l (bU a.x)/\a.val=bk (l.P (bU a.x))/\(∀x,h4 l x->l.P (bU a.x)<=l.P x)/\∀r,¬om l r:=by
 have d:=(F8 h).1;unfold ga at h;rw[aL b7]at h;simp only[bK,cP]at h;obtain⟨f,g,b,c,i,_⟩:=h;obtain⟨v,e⟩:=n0.1 f;obtain⟨w,f⟩:=n0.1 g;rw[e]at b;rw[f]at c;have j:v=w:=xb (b.trans c.symm);have g:v=l.P (bU a.x):=JU e;have c:=vQ d f;rw[<-j,g]at c;refine⟨uv d i,by rw[<-g];exact b.symm,λx b=>?_,λr d=>wS d c⟩;have:=Az b c;simpa using this
theorem iy.closed(h:iy l deep k b u e)(a:e=0):nV l=false:=by
 cases h with
 | form _=>cases a
 | wide _ _=>cases a
 | jj _ _ b _=>exact b
 | cB _ _ b _ _ _=>exact b
 | done _ _ b _ _=>exact b
end
end Go.Dam.C
namespace Go.Dam.C
open Go Go.Dam
variable{X:aA}{pm:Perm}{H ab bX ai:ae}
theorem FH{x:Int}(h:x.natAbs<1000000000):gq (bk (x:Rat))=some (x:Rat):=by
 have a:bS 9<=bS 2000:=j4;have a:bS 9=1000000000:=fQ 9;refine WS ?_ ?_
 ·have:((x:Rat)).num=x:=rfl;rw[this];omega
 ·have:((x:Rat)).den=1:=rfl;rw[this];omega
theorem Fj{x:Int}(h:x.natAbs<1000000000):isNum (bk (x:Rat))=true:=by unfold isNum;rw[FH h];rfl
theorem Hx{x:Int}(h:x.natAbs<1000000000):rd (bk (x:Rat))=x:=by unfold rd;rw[FH h];rfl
theorem FI{x:Int}(h:x.natAbs<1000000000):(bk (x:Rat)).length<=10:=by
 have a:((x:Rat)).num=x:=rfl;have b:((x:Rat)).den=1:=rfl;have c:(Lib.decDigits x.natAbs).length<=9:=by
  rw[Lib.decDigits_length];exact zk h (by decide)
 unfold bk;rw[a,b];simp only[if_true,List.append_nil,o4];split<;>simp<;>omega
theorem xu:bk ((0:Int):Rat)=[48]:=by
 have a:(((0:Int):Rat)).num=0:=rfl;have b:(((0:Int):Rat)).den=1:=rfl;unfold bk;rw[a,b,aw (by decide),aL rfl,Lib.decDigits_one (by decide)];rfl
theorem Hw{x:Int}(h:x≠0):bk (x:Rat)≠[48]:=λe=>by
 rw[<-xu]at e;have:=xb e;exact h (Rat.intCast_inj.1 this)
def iB(v:Nat->Int):Nat->List dL
 | 0=>[]
 | k+1=>if v k=0 then iB v k else iB v k++[⟨k,bk (v k:Rat)⟩]
section
variable{v:Nat->Int}
theorem yi:∀{k:Nat},∀c∈iB v k,0<=c.ad/\c.ad<k
 | 0,c,h=>by cases h
 | k+1,c,h=>by
   unfold iB at h;split at h
   ·have:=yi c h;omega
   ·rcases fc.1 h with h | h
    ·have:=yi c h;omega
    ·rw[mV.1 h];simp;omega
theorem ys:∀{k:Nat},(iB v k).length<=k
 | 0=>bc _
 | k+1=>by
   have:=ys (k:=k);unfold iB;split
   ·omega
   ·simp;omega
theorem yt:∀{k:Nat},(∀j,j<k->(v j).natAbs<1000000000)->∀c∈iB v k,c.v.length<=10
 | 0,_,c,h=>by cases h
 | k+1,a,c,h=>by
   unfold iB at h;split at h
   ·exact yt (λj _=>a j (by omega)) c h
   ·rcases fc.1 h with h | h
    ·exact yt (λj _=>a j (by omega)) c h
    ·rw[mV.1 h];exact FI (a k (by omega))
theorem Ft{n:Int}{d:dL}:∀{l:List dL} {last:Int},hB n last l=true->(∀c∈l,c.ad<d.ad)->last<d.ad->isNum d.v=true->d.v≠[48]->d.ad<n->hB n last (l++[d])=true
 | [],last,_,_,a,b,c,d=>by simp[hB,a,b,c,d]
 | c::l,last,h,a,_,b,d,e=>by
   simp only[hB,bK]at h;obtain⟨f,g,i,j,k⟩:=h;simp only[mW,hB,bK];exact⟨f,g,i,j,Ft k (λx f=>a x (.tail _ f)) (a c (.head _)) b d e⟩
theorem Fu{n:Nat}:∀{k:Nat},(∀j,j<k->(v j).natAbs<1000000000)->k<=n->hB n (-1) (iB v k)=true
 | 0,_,_=>rfl
 | k+1,a,_=>by
   have ih:=Fu (k:=k) (λj _=>a j (by omega)) (show k<=n by omega);unfold iB;split
   ·exact ih
   ·rename_i b;exact Ft ih (λc d=>(yi c d).2) (by show(-1:Int)<(k:Int);omega) (Fj (a k (by omega))) (Hw b) (by show(k:Int)<(n:Int);omega)
end
def nD(aq:List Int)(j:Nat):Int:=match aq[j]? with
 | some x=>x.tmod 5-4
 | none=>-1
def j6(aq:List Int)(n i k:Nat):Int:=match aq[i*n+k]? with
 | some x=>x.tmod 6-3
 | none=>((i*3+k*5:Nat):Int).tmod 7-3
def kR(aq:List Int)(j:Nat):a1:=⟨[120],[48],[],bk (nD aq j:Rat),false⟩
def pN(aq:List Int)(n i:Nat):b9:=⟨[114],1,iB (j6 aq n i) n,[48],[]⟩
def jb(aq:List Int)(n:Nat):ar:=⟨(List.range n).map (kR aq),(List.range (n+2)).map (pN aq n)⟩
section
variable{aq:List Int}{n i j k:Nat}
theorem yw:(nD aq j).natAbs<1000000000:=by
 unfold nD;split
 ·rename_i x _;have a:=Int.tmod_lt_of_pos x (show(0:Int)<5 by decide);have b:=Int.lt_tmod_of_pos x (show(0:Int)<5 by decide);omega
 ·decide
theorem yy:(j6 aq n i k).natAbs<1000000000:=by
 unfold j6;split
 ·rename_i x _;have a:=Int.tmod_lt_of_pos x (show(0:Int)<6 by decide);have b:=Int.lt_tmod_of_pos x (show(0:Int)<6 by decide);omega
 ·have a:=Int.tmod_lt_of_pos ((i*3+k*5:Nat):Int) (show(0:Int)<7 by decide);have b:=Int.lt_tmod_of_pos ((i*3+k*5:Nat):Int) (show(0:Int)<7 by decide);omega
theorem yz(h:j<n):(jb aq n).ad j=kR aq j:=by
 simp[jb,ar.ad,h]
theorem yB(h:i<n+2):(jb aq n).row i=pN aq n i:=by
 simp[jb,ar.row,h]
theorem Gp(d:n<=5):c5 (jb aq n):=by
 refine⟨by simp[jb];omega,by simp[jb];omega,λc a=>?_,λ_ b=>?_⟩
 ·obtain⟨j,_,rfl⟩:=gl.1 a;have:=FI (yw (aq:=aq) (j:=j));exact⟨by simp[kR],by simp[kR],by show(bk _).length<=30;omega⟩
 ·obtain⟨i,_,rfl⟩:=gl.1 b;refine⟨by simp[pN],a8 ys (by omega),λc a=>?_⟩;have:=yt (λj _=>yy) c a;omega
theorem FG:isNum [48]=true:=by rw[<-xu];exact Fj (by decide)
theorem xS:rd [48]=0:=by rw[<-xu];exact Hx (by decide)
theorem Gn(c:n<=5):(jb aq n).I=true:=by
 unfold ar.I;simp only[bK,eA];refine⟨by simp[jb];omega,λ_ a=>?_,λ_ b=>?_⟩
 ·obtain⟨j,_,rfl⟩:=gl.1 a;simp[h9,kR,Fj yw,FG]
 ·obtain⟨i,_,rfl⟩:=gl.1 b;have e:(jb aq n).a.length=n:=by simp[jb]
  simp only[iM,bK];refine⟨by rw[e];exact Fu (λj _=>yy) (bc _),FG,rfl,rfl,rfl⟩
theorem yA{x:Nat->Rat}:h4 (jb aq n) x↔(∀j,j<n->0<=x j)/\∀i,i<n+2->gz (jb aq n) x i<=0:=by
 have c:(jb aq n).a.length=n:=by simp[jb]
 have c:(jb aq n).rows.length=n+2:=by simp[jb]
 constructor
 ·rintro⟨a,b⟩;refine⟨λj c=>?_,λi d=>?_⟩
  ·have:=(a j (by omega)).1;rw[yz c]at this;have:=this (by simp[kR]);rwa [show(kR aq j).low=[48] from rfl,xS]at this
  ·have:=(b i (by omega)).1;rw[yB d]at this;have:=this rfl;rwa [show(pN aq n i).rhs=[48] from rfl,xS]at this
 ·rintro⟨a,b⟩;refine⟨λj _=>?_,λi _=>?_⟩
  ·rw[yz (by omega)];refine⟨λ_=>?_,λh=>absurd rfl h⟩;rw[show(kR aq j).low=[48] from rfl,xS];exact a j (by omega)
  ·rw[yB (by omega)];refine⟨λ_=>?_,λh=>(by cases h),λh=>absurd rfl h⟩;rw[show(pN aq n i).rhs=[48] from rfl,xS];exact b i (by omega)
theorem Gm{a:cW}(h:ga (jb aq n) a=true):a.st=3∨a.st=1/\a.val=[48]:=by
 have d:h4 (jb aq n) λ_=>0:=yA.2 ⟨λ_ _=>kW,λi _=>by
  rw[gz,ng λj _=>mX _];exact kW⟩
 have e:=(F8 h).2;have b:a.st=1∨a.st=3:=by
  rcases e with⟨_,_,_,s,_⟩ | ⟨y,c,_,Fi,dN,_⟩ | ⟨_,_,s,_⟩
  ·exact .inl s
  ·have:=Az d Fi;simp only[kl,if_false]at this;exact absurd dN (fy.2 this)
  ·exact .inr s
 rcases b with e | b
 ·refine .inr ⟨e,?_⟩;obtain⟨f,g,c,_⟩:=F1 h e;obtain⟨x,k⟩:∃x,x=bU a.x:=⟨_,rfl⟩;rw[<-k]at f g c;have e:(jb aq n).P (λ_=>0)=0:=ng λj _=>mX _;have k:=c _ d;rw[e]at k;have d:h4 (jb aq n) λj=>2*x j:=by
   obtain⟨a,e⟩:=yA.1 f;refine yA.2 ⟨λj f=>by have:=a j f;grind,λi a=>?_⟩;have f:gz (jb aq n) (λj=>2*x j) i=2*gz (jb aq n) x i:=by
    unfold gz;rw[<-fP];exact c9 λj _=>by grind
   have:=e i a;rw[f];grind
  have a:(jb aq n).P (λj=>2*x j)=2*(jb aq n).P x:=by
   unfold ar.P;rw[<-fP];exact c9 λj _=>by grind
  have e:=c _ d;rw[a]at e;have:(jb aq n).P x=0:=by grind
  rw[g,this];exact xu
 ·exact .inl b
end
def pw(H:ae)(v:Value)(l:List Int):Prop:=tU H v l.length λi u=>∃x,l[i]? = some x/\u=.int .i64 x
theorem pw.ext{v:Value}{l:List Int}(h:pw H v l)(e:Ext H ab):pw ab v l:=tU.imp h e λ_ _ _=>id
theorem pw.nil:pw H (.slice none 0 0) []:=⟨none,0,rfl,λ_ a=>absurd a (gS _)⟩
structure oy(X:aA):Prop extends Fs X where
 q1:Has X F.q1 C.q1
 qR:Has X F.qR C.qR
 ry:Has X F.ry C.ry
 qd:Has X F.qd C.qd
 q2:Has X F.q2 C.q2
 q9:Has X F.q9 C.q9
theorem Fy(s:oy X)(g:bl pm H){x:Nat}(C:x<18446744073709551616):Call X pm F.q1 [.int .u64 (x:Int)] H λr ab=>K pm H ab/\∃k,k<=5/\fB ab r k x/\ll H.next r:=by
 refine Call.W s.q1 rfl λ_ r=>?_;simp[-Bt,-Bu];refine fh.of (σ:=Nat×Value) (λs=>[(0,.int .u64 ((x/10000^s.1:Nat):Int)),(3,s.2)]) (λs ab=>K pm H ab/\∃o,pF ab s.2 1 s.1 (dZ (λi=>(rg x i:Int)) s.1) o/\(∀c,o=some c->H.next<=c/\pm.may c=true)/\(s.1≠0->10000^(s.1-1)<=x)) (λs=>x/10000^s.1) (0,.slice none 0 0) (by simp) ⟨K.refl g,none,⟨rfl,rfl,rfl⟩,by simp,by simp⟩ ?_;rintro⟨q,_⟩ e ⟨b,o,f,h,j⟩;simp only at f h j|-;have d:=b.q;have t:q<=5:=by
  apply o3;intro _;have g:=j (by omega);have g:10000^5<=10000^(q-1):=hX (by decide) (by omega);omega
 obtain⟨y,a⟩:∃y,y=x/10000^q:=⟨_,rfl⟩;rw[<-a];have s:y<=x:=by rw[a];exact lA _ _
 by_cases k:y=0
 ·subst k;simp;refine r _ _ _ ?_;simp;have l:x<10000^q:=by
   rcases Nat.div_eq_zero_iff.1 a.symm with g | g
   ·exact absurd g (Nat.ne_of_gt (sq q))
   ·exact g
  have g:kG q x:=⟨l,j⟩;refine⟨b,q,t,?_⟩
  cases o with
  | none=>
    obtain⟨rfl,_,rfl⟩:=f;exact⟨⟨g,_,_,rfl,bc _,.inl ⟨rfl,rfl⟩⟩,ll.nil⟩
  | some c=>
    obtain⟨rfl,_,m⟩:=f;exact⟨⟨g,_,_,rfl,bc _,.inr ⟨c,_,_,rfl,m,rfl,λi g=>sC g⟩⟩,ll.of (h c rfl).1⟩
 ·have u:wr .u64 ((y:Int)/10000)=((y/10000:Nat):Int):=by rw[fu];simp
  have v:wr .i64 ((y:Int)%10000)=((y%10000:Nat):Int):=by rw[cE];simp
  have w:y%10000=rg x q:=by rw[a];rfl
  obtain⟨z,l,m,A,_,_⟩:=E6 (K.new d (.cells [.int .i64 ((y%10000:Nat):Int)] (.n 1))).q (cR:=8) (n:=H.next) (f.ext λc y _ p=>(K.new d _).some d p) (xs:=[.int .i64 ((y%10000:Nat):Int)]) rfl rfl (bc _) (by omega) (by omega) (by have:=b.next;show H.next<=e.next+1;omega) h;have h:K pm H z:=aC.trans (aC.new b b.next _) A;have f:dZ (λi=>(rg x i:Int)) q++[.int .i64 ((y%10000:Nat):Int)]=dZ (λi=>(rg x i:Int)) (q+1):=by rw[Hs,w]
  rw[f]at m;have f:x/10000^(q+1)=y/10000:=by rw[eB,<-zL,a]
  simp at l;simp[show 0<y by omega,u,v,d.make,d.pick,fill,setCells,l]
  refine kt.of (q+1,.slice (some ⟨e.next+1,0,none⟩) (q+1) (q+1)) ?_ (by have:((x/10000^(q+1):Nat):Int)=((y/10000:Nat):Int):=(by rw[f]);simp at this|-;exact this.symm) ⟨h,_,m,λc B=>?_,λ_=>?_⟩
  ·show x/10000^(q+1)<x/10000^q;rw[f,<-a];omega
  ·cases B;have:=b.next;exact⟨by show H.next<=e.next+1;omega,g.may (by show H.next<=e.next+1;omega)⟩
  ·show 10000^q<=x;apply o3;intro p;rw[u4 (by omega)]at a;exact k a
theorem fB.q'{v:Value}{k n p:Nat}{x:Bool}{l aU:List Value}{z acH:cM}(h:fB H v k n)(g:H.get p=some (.cells (.bool x::l) z)):fB (H.put p (.cells aU acH)) v k n:=by
 obtain⟨i,j,rfl,l,m⟩:=h.row;refine⟨h.kS,i,j,rfl,l,m.imp id ?_⟩;rintro⟨c,y,n,rfl,a,b,d⟩;by_cases e:c=p
 ·subst e;rw[g]at a;cases a;cases b;have f:k=0:=by
   apply o3;intro f;have:=d 0 (by omega);cases this
  subst f;exact⟨c,_,_,rfl,bO,rfl,λ_ f=>absurd f (gS _)⟩
 ·exact⟨c,y,n,rfl,by rw[a6 e];exact a,b,d⟩
theorem Hi(i:oy X)(g:bl pm H){x:Int}(b7:-9223372036854775808<=x)(cH:x<9223372036854775808):Call X pm F.qR [.int .i64 x] H λr ab=>K pm H ab/\px ab r 5 (decide (x<0)) x.natAbs 1:=by
 refine Call.W i.qR rfl λQ u=>?_;obtain⟨p,j⟩:∃p,p=H.next:=⟨_,rfl⟩;have r:pm.may p=true:=g.may (by omega);obtain⟨l,e⟩:∃A,A=H.new (.cells [.bool false,.slice none 0 0,.slice none 0 0] (.t T.tA)):=⟨_,rfl⟩;have s:K pm H l:=by rw[e];exact K.new g _
 have d:=s.q;have f:l.get p=some (.cells [.bool false,.slice none 0 0,.slice none 0 0] (.t T.tA)):=by rw[e,j];exact cc
 have h:∀(a:ae) (k:Nat) (b:Option Addr) (c:Nat) (aU:bn),K pm l a->fB a (.slice b k c) k x.natAbs->k<=5->aF 2 aU=some (.pointer (some ⟨p,0,none⟩))->
  Q .ret aU ((a.new (.cells [.int .i64 1] (.n 1))).put p (.cells [.bool (decide (x<0)),.slice b k c,.slice (some ⟨a.next,0,none⟩) 1 1] (.t T.tA))):=by
  intro a k b c aU g p q t;have l:=g.q;have m:=K.new l (.cells [.int .i64 1] (.n 1));have n:=(K.trans g m).some d f;have v:=l.lt (g.some d f);have v:(a.new (.cells [.int .i64 1] (.n 1))).get a.next=some (.cells [.int .i64 ((1:Nat):Int)] (.n 1)):=cc;have w:=(p.ext (m.ext l)).q' n (aU:=[.bool (decide (x<0)),.slice b k c,.slice (some ⟨a.next,0,none⟩) 1 1]) (acH:=.t T.tA);have y:=(fB.one v (by decide) (by decide)).q' n (aU:=[.bool (decide (x<0)),.slice b k c,.slice (some ⟨a.next,0,none⟩) 1 1]) (acH:=.t T.tA);refine u _ _ _ ?_;refine⟨.inr rfl,[.agg #[.bool (decide (x<0)),.slice b k c,.slice (some ⟨a.next,0,none⟩) 1 1]],by simp[ft,t,bB,bA,bO],?_,⟨_,_,k,1,rfl,w,y,q,by decide⟩,by decide,λl=>?_⟩
  ·exact aC.put (K.trans s (K.trans g m)) (by omega) n (by simp) _
  ·simp at l;omega
 by_cases o:x<0
 ·have v:wr .i64 (x+1)=x+1:=cE;obtain⟨n,w⟩:∃n,n=x.natAbs:=⟨_,rfl⟩;have l:x=-(n:Int):=by omega
  have l:wr .i64 (-(x+1))=((n-1:Nat):Int):=by rw[cE];omega
  have p:wr .u64 ((n-1:Nat):Int)=((n-1:Nat):Int):=fu;have s:wr .u64 (((n-1:Nat):Int)+1)=(n:Int):=by rw[fu];omega
  simp only[o,decide_true,<-w]at h;simp[g.make,g.pick,ptr,<-j,<-e,o,v,l,p,s,-Bx,-Bv];refine al.of (aq:=[.int .u64 (n:Int)]) (Fy i d (x:=n) (by omega)) ?_;rintro _ a ⟨m,k,y,t,_⟩;have q:=m.q;obtain⟨b,c,rfl⟩:=t.form;have l:=(K.trans m (K.new q (.cells [.int .i64 1] (.n 1)))).some d f;simp[q.make,q.pick,fill,setCells,bA,l,r];exact h _ _ _ _ _ m t y (by simp)
 ·obtain⟨n,rfl⟩:∃n:Nat,x=(n:Int):=⟨x.natAbs,by omega⟩;have l:wr .u64 (n:Int)=(n:Int):=fu;simp only[o,decide_false,Int.natAbs_natCast]at h;simp[g.make,g.pick,ptr,<-j,<-e,l,-Bw];refine al.of (aq:=[.int .u64 (n:Int)]) (Fy i d (x:=n) (by omega)) ?_;rintro _ a ⟨m,k,v,t,_⟩;have q:=m.q;obtain⟨b,c,rfl⟩:=t.form;have a:=(K.trans m (K.new q (.cells [.int .i64 1] (.n 1)))).some d f;simp[q.make,q.pick,fill,setCells,bA,a,r];exact h _ _ _ _ _ m t v (by simp)
theorem G7(f:oy X)(g:bl pm H){v:Value}{k n d:Nat}{neg:Bool}(L:px H v k neg n d)(av:k<90000):Call X pm F.ry [v] H λr ab=>K pm H ab/\px ab r k neg (n/Nat.gcd n d) (d/Nat.gcd n d):=by
 refine Call.W f.ry rfl λ_ hQ=>?_;have P:=L.d;have R:=L.s;obtain⟨_,_,h,c,rfl,q,i,_,_⟩:=L.ex;obtain⟨r,s,rfl⟩:=q.form;obtain⟨t,u,rfl⟩:=i.form;obtain⟨G,j⟩:∃G,G=Nat.gcd n d:=⟨_,rfl⟩;have v:0<G:=by rw[j];exact Nat.gcd_pos_of_pos_right _ P
 have S:G<=d:=by rw[j];exact Nat.gcd_le_right _ P
 have ai:G∣n:=by rw[j];exact Nat.gcd_dvd_left _ _
 obtain⟨U,M⟩:∃N,N=H.next:=⟨_,rfl⟩;obtain⟨e,w⟩:∃A,A=H.new (.cells [.bool neg,.slice r h s,.slice t c u] (.t T.Fz)):=⟨_,rfl⟩;have V:K pm H e:=by rw[w];exact K.new g _
 have W:=V.q;have q1:e.get U=some (.cells [.bool neg,.slice r h s,.slice t c u] (.t T.Fz)):=by rw[w,M];exact cc
 obtain⟨x,X⟩:∃N,N=e.next:=⟨_,rfl⟩;obtain⟨Y,O⟩:∃A,A=e.new (.cells [.bool false,.slice none 0 0,.slice none 0 0] (.t T.vS)):=⟨_,rfl⟩;have L:K pm e Y:=by rw[O];exact K.new W _
 have N:=L.q;have q2:Y.get x=some (.cells [.bool false,.slice none 0 0,.slice none 0 0] (.t T.vS)):=by rw[O,X];exact cc
 have Y:=L.some W q1;have P:=K.trans V L;have L:e.next=U+1:=by rw[w,M];rfl
 have aj:pm.may x=true:=g.may (by omega);simp[g.make,g.pick,ptr,<-M,<-w,  <-X,<-O,Y,-BM,-BA];refine al.of (aq:=[.slice r h s,.slice t c u]) (G6 f.toNE N (q.ext (P.ext g)) (i.ext (P.ext g)) (by omega) (by omega)) ?_;rintro _ _ ⟨e,Q,k⟩;rw[<-j]at k;have y:=e.q;have Z:=e.some N Y;have s2:=e.some N q2;have aa:=K.trans P e;have e:Q<=c:=k.kS.le (dk S i.kS.1);obtain⟨bg,cg,rfl⟩:=k.form;simp[Z,-BI,-Bz];refine al.of (aq:=[.slice r h s,.slice bg Q cg]) (yD f.toNE y (q.ext (aa.ext g)) k (by omega) (by omega) v) ?_;rintro _ _ ⟨l,_,_,a,_,rfl,ab,ak⟩;have z:=l.q;have t1:=l.some y Z;have t2:=l.some y s2;have ad:=K.trans aa l;obtain⟨B,C,rfl⟩:=ab.form;obtain⟨_,_,rfl⟩:=ak.form;simp[t1,-BC,-By];refine al.of (aq:=[.slice t c u,.slice bg Q cg]) (yD f.toNE z (i.ext (ad.ext g)) (k.ext (l.ext y)) (by omega) (by omega) v) ?_;rintro _ _ ⟨m,_,_,b,_,rfl,ae,an⟩;have D:=m.q;have x1:=m.some z t1;have x2:=m.some z t2;have ao:=K.trans ad m;obtain⟨E,F,rfl⟩:=ae.form;obtain⟨_,_,rfl⟩:=an.form;have af:=ab.ext (m.ext z);simp[x1,-BB];refine al.of (aq:=[.bool neg,.slice B a C,.slice E b F]) (G5 f.tox4 D af rfl) ?_;rintro _ H6 ⟨o,rfl⟩;have e:=o.q;have I:=o.some D x2;have ar:=K.trans ao o;have ag:n≠0->n/G≠0:=λah=>Nat.ne_of_gt (Nat.div_pos (Nat.le_of_dvd (by omega) ai) v);have au:(neg&&!decide (n/G=0))=neg:=by
  cases neg with
  | false=>rfl
  | true=>simpa using ag (Nat.ne_of_gt (R rfl))
 rw[au];obtain⟨J,p⟩:∃A,A=H6.put x (.cells [.bool neg,.slice B a C,.slice E b F] (.t T.vS)):=⟨_,rfl⟩;have e:K pm H J:=by rw[p];exact aC.put ar (by omega) I (by simp) _
 have f:J.get x=some (.cells [.bool neg,.slice B a C,.slice E b F] (.t T.vS)):=by rw[p];exact bO
 have f1:fB J (.slice B a C) a (n/G):=by rw[p];exact(af.ext (o.ext D)).q' I
 have f2:fB J (.slice E b F) b (d/G):=by rw[p];exact(ae.ext (o.ext D)).q' I
 have k:a<=h:=f1.kS.le (dk (lA _ _) q.kS.1);have h:b<=c:=f2.kS.le (dk (lA _ _) i.kS.1);simp[I,setCells,aj,<-p];refine hQ _ _ _ ?_;simp[ft,f,bB,bA];rw[<-j];refine⟨e,⟨_,_,a,b,rfl,f1,f2,by omega,by omega⟩,Nat.div_pos S v,λah=>qo (ag (Nat.ne_of_gt (R ah)))⟩
def ny(m:Nat):List UInt8:=if m=0 then[] else Lib.decDigits m
theorem Gq{m:Nat}(h:m≠0)(s:List UInt8):ny (m/10)++UInt8.ofNat (48+m%10)::s=ny m++s:=by
 unfold ny;rw[aw h];by_cases a:m<10
 ·rw[Lib.decDigits_one a,aL (by omega),n1 a];rfl
 ·rw[aw (by omega)]
  conv=>rhs;rw[Lib.decDigits,dif_neg a]
  simp
theorem ug(i j:Nat)(n:Nat):n/10^(4*i+j)=n/10000^i/10^j:=by
 rw[hG,qm,<-zL]
theorem HC{n i j:Nat}(b:j<4):rg n i/10^j%10=n/10^(4*i+j)%10:=by
 rw[ug];unfold rg;obtain⟨m,a⟩:∃m,m=n/10000^i:=⟨_,rfl⟩;rw[<-a];rcases(show j=0∨j=1∨j=2∨j=3 by omega) with rfl | rfl | rfl | rfl<;>simp<;>omega
theorem HD{n i j:Nat}:rg n i/10^j<10000:=dk (lA _ _) kY
theorem FZ(g:bl pm H){d:Nat}(b:d<10000){t:List UInt8}(b:t.length<4000000000){v b e:Value}{l:bn}{R:cl}(k:aF 0 l=some v)(m:aF 3 l=some (ak t))(n:aF 4 l=some b)(o:aF 5 l=some (.int .i64 (d:Int)))(p:aF 6 l=some e)
 (f:∀aU ab,Sub [(0,v),(3,ak (UInt8.ofNat (48+d%10)::t)),(4,b),(5,.int .i64 ((d/10:Nat):Int)),(6,e)] aU->K pm H ab->R .normal aU ab):wp X pm (.code C.su) l H [] R:=by
 have b:wr .i64 ((d:Int)%10)=((d%10:Nat):Int):=by rw[cE];simp
 have q:wr .i64 ((d:Int)/10)=((d/10:Nat):Int):=by rw[cE];simp
 have h:wr .i64 (48+((d%10:Nat):Int))=((48+d%10:Nat):Int):=by rw[cE];simp
 have i:wr .u8 ((48+d%10:Nat):Int)=((48+d%10:Nat):Int):=by
  rw[r7];simp[IntKind.wrap,IntKind.bits,IntKind.signed];omega
 obtain⟨c,r⟩:∃c,c=48+d%10:=⟨_,rfl⟩;rw[<-r]at h i f;obtain⟨j,a⟩:∃A,A=H.new (.cells [.int .u8 (c:Int)] (.n 1)):=⟨_,rfl⟩;have b:K pm H j:=by rw[a];exact K.new g _
 have e:j.get H.next=some (.cells [.int .u8 (c:Int)] (.n 1)):=by rw[a];exact cc
 simp[o,m,h,show 1+t.length<=4294967296 by omega,i,g.make,g.pick,fill,setCells,<-a,e,bB,bytesOf,q,-Int.natCast_emod,-Int.natCast_ediv];refine f _ _ ?_ b;simp[k,n,p]
theorem Fx(N:oy X)(g:bl pm H){v:Value}{k n:Nat}(D:fB H v k n)(av:k<1000000000):Call X pm F.qd [v] H λr ab=>K pm H ab/\r=ak (Lib.decDigits n):=by
 refine Call.W N.qd rfl λQ E=>?_;have e:=D.kS;obtain⟨_,c,rfl,_,O⟩:=D.row;by_cases f:k=0
 ·subst f;obtain rfl:n=0:=e.nE.1 rfl;simp;refine E _ _ _ ?_;simp;exact⟨K.refl g,by rw[Lib.decDigits_one (by decide)];rfl⟩
 have P:((k:Int)==0)=false:=by
  rw[lz];simpa using f
 obtain⟨x,_,_,rfl,R,S,T⟩:=O.get f;have U:=e.2 f;simp[P,-Br,-vI];refine fh.of (σ:=Nat×List UInt8) (λs=>[(0,.slice (some ⟨x,0,none⟩) k c),(3,ak s.2),(4,.int .i64 (s.1:Int))]) (λs ab=>K pm H ab/\s.1<=k/\s.2.length<=4*s.1/\ny (n/10000^s.1)++s.2=Lib.decDigits n) (λs=>k-s.1) (0,[]) (by simp) ⟨K.refl g,Nat.zero_le _,Nat.zero_le _,?_⟩ ?_
 ·have:n≠0:=λb=>f (e.nE.2 b);simp[ny,this]
 rintro⟨i,s⟩ _ ⟨o,V,F,p⟩;simp only at V F p|-;have gA:=o.q;by_cases r:i<k
 ·have W:=o.some g R;have G:wr .i64 ((i:Int)+1)=((i+1:Nat):Int):=by rw[cE];simp
  have u:wr .i64 ((k:Int)-1)=(k:Int)-1:=cE;simp[r,W,S,T i r,-Bs,-ss];refine fh.of (σ:=Nat×List UInt8) (λt=>[(0,.slice (some ⟨x,0,none⟩) k c),(3,ak t.2),(4,.int .i64 (i:Int)),(5,.int .i64 ((rg n i/10^t.1:Nat):Int)),(6,.int .i64 (t.1:Int))]) (λt ab=>K pm H ab/\t.1<=4/\t.2.length<=4*i+t.1/\ny (n/10^(4*i+t.1))++t.2=Lib.decDigits n) (λt=>4-t.1) (0,s) (by simp) ⟨o,by show(0:Nat)<=4;decide,by simpa using F,?_⟩ ?_
  ·show ny (n/10^(4*i+0))++s=Lib.decDigits n;rw[ug];simpa using p
  rintro⟨j,t⟩ v ⟨w,Y,Z,g⟩;simp only at Y Z g|-;have gB:=w.q
  have I:∀(a:bn) (h:List UInt8),aF 0 a=some (.slice (some ⟨x,0,none⟩) k c)->aF 3 a=some (ak h)->aF 4 a=some (.int .i64 ((i+1:Nat):Int))->h.length<=4*(i+1)->ny (n/10^(4*(i+1)))++h=Lib.decDigits n->
   kt (λs:Nat×List UInt8=>[(0,.slice (some ⟨x,0,none⟩) k c),(3,ak s.2),(4,.int .i64 (s.1:Int))]) (λs ab=>K pm H ab/\s.1<=k/\s.2.length<=4*s.1/\ny (n/10000^s.1)++s.2=Lib.decDigits n) (λs=>k-s.1) (i,s) a v:=by
   intro a h b d m q t;refine kt.of (i+1,h) (by show k-(i+1)<k-i;omega) (by simp[b,d,m]) ⟨w,r,q,?_⟩;have:=ug (i+1) 0 n;simp only[Nat.add_zero,Nat.pow_zero,Nat.div_one]at this;rw[<-this];exact t
  by_cases l:j<4
  ·obtain⟨d,m⟩:∃d,d=rg n i/10^j:=⟨_,rfl⟩;have aa:d<10000:=by rw[m];exact HD
   have J:=HC (n:=n) (i:=i) l;rw[<-m]at J|-;have ad:rg n i/10^(j+1)=d/10:=by rw[m,eB,<-zL]
   have wj:wr .i64 ((j:Int)+1)=((j+1:Nat):Int):=by rw[cE];simp
   have wm:wr .i64 ((d:Int)%10)=((d%10:Nat):Int):=by rw[cE];simp
   have wq:wr .i64 ((d:Int)/10)=((d/10:Nat):Int):=by rw[cE];simp
   have ag:wr .i64 (48+((d%10:Nat):Int))=((48+d%10:Nat):Int):=by rw[cE];simp
   have w8:wr .u8 ((48+d%10:Nat):Int)=((48+d%10:Nat):Int):=by
    rw[r7];simp[IntKind.wrap,IntKind.bits,IntKind.signed];omega
   by_cases y:i=k-1/\d=0
   ·obtain⟨_,rfl⟩:=y;have c:((i:Int)==(k:Int)-1)=true:=by simp;omega
    have b:n/10^(4*i+j)=0:=by
     rw[ug];have q:n/10000^i<10000:=by
      rw[Nat.div_lt_iff_lt_mul (sq i),eZ,<-eB];have:=e.1;rwa [show k=i.succ by omega]at this
     have t:rg n i=n/10000^i:=n1 q;rw[<-t];exact m.symm
    simp[l,u,c,G];refine I _ t (by simp) (by simp) (by simp) (by omega) ?_
    rw[b]at g;rw[show 4*(i+1)=4*i+j+(4-j) by omega,hG,<-zL,b];simpa using g
   ·have ae:n/10^(4*i+j)≠0:=by
     rw[ug];intro _;by_cases q:i=k-1
     ·refine y ⟨q,?_⟩;rw[m];have:rg n i<=n/10000^i:=Nat.mod_le _ _;have:=Nat.div_le_div_right (c:=10^j) this;omega
     ·have b:10000^(i+1)<=n:=a8 (hX (by decide) (by omega)) U;rw[eB]at b;have c:10000<=n/10000^i:=by rw[Nat.le_div_iff_mul_le (sq i),eZ];exact b
      have k:10^j<=10^4:=hX (by decide) (by omega);have t:0<n/10000^i/10^j:=Nat.div_pos (by omega) (u6 (by decide));omega
    have L:=Gq ae t;rw[zL,<-eB,<-J,g]at L
    have M:∀a:bn,aF 0 a=some (.slice (some ⟨x,0,none⟩) k c)->aF 3 a=some (ak t)->aF 4 a=some (.int .i64 (i:Int))->aF 5 a=some (.int .i64 (d:Int))->aF 6 a=some (.int .i64 (j:Int))->wp X pm (.code C.su) a v [.bj 3,.seq C.tz] (λb a ab=>match b with
     | .normal=>kt (λt:Nat×List UInt8=>[(0,.slice (some ⟨x,0,none⟩) k c),(3,ak t.2),(4,.int .i64 (i:Int)),(5,.int .i64 ((rg n i/10^t.1:Nat):Int)),(6,.int .i64 (t.1:Int))]) (λt ab=>K pm H ab/\t.1<=4/\t.2.length<=4*i+t.1/\ny (n/10^(4*i+t.1))++t.2=Lib.decDigits n) (λt=>4-t.1) (j,t) a ab
     | b=>wp X pm (.res b) a ab [.bj 2,.bj 1,.seq C.ss] (λb a ab=>match b with
       | .normal=>kt (λs:Nat×List UInt8=>[(0,.slice (some ⟨x,0,none⟩) k c),(3,ak s.2),(4,.int .i64 (s.1:Int))]) (λs ab=>K pm H ab/\s.1<=k/\s.2.length<=4*s.1/\ny (n/10000^s.1)++s.2=Lib.decDigits n) (λs=>k-s.1) (i,s) a ab
       | b=>wp X pm (.res b) a ab [.bj 0,.seq C.vI] Q)):=by
     intro a m0 m3 m4 m5 m6;refine wp_cut (λb z A=>b=.normal/\Sub [(0,.slice (some ⟨x,0,none⟩) k c),(3,ak (UInt8.ofNat (48+d%10)::t)),(4,.int .i64 (i:Int)),(5,.int .i64 ((d/10:Nat):Int)),(6,.int .i64 (j:Int))] z/\K pm v A) (FZ gB aa (t:=t) (by omega) m0 m3 m4 m5 m6 λz A q B=>⟨rfl,q,B⟩) ?_;rintro b z A ⟨rfl,q,B⟩;simp only[Sub]at q;obtain⟨a0,a3,a4,a5,a6,_⟩:=q;simp[a6,wj];refine kt.of (j+1,UInt8.ofNat (48+d%10)::t) (by show 4-(j+1)<4-j;omega) ?_ ⟨K.trans w B,l,by simp;omega,?_⟩
     ·have c:((rg n i/10^(j+1):Nat):Int)=((d/10:Nat):Int):=by rw[ad]
      simp at c;simp[a0,a3,a4,a5];exact c.symm
     ·exact L
    by_cases af:i=k-1
    ·have c:d≠0:=λn=>y ⟨af,n⟩;have q:((i:Int)==(k:Int)-1)=true:=by simp;omega
     have i:((d:Int)==0)=false:=by
      rw[lz];simpa using c
     simp[l,u,q,i,-su,-tz,-ss];exact M _ (by simp) (by simp) (by simp) (by simp) (by simp)
    ·have c:((i:Int)==(k:Int)-1)=false:=by
      rw[lz];simp;omega
     simp[l,u,c,aR,-su,-tz,-ss];exact M _ (by simp) (by simp) (by simp) (by simp) (by simp)
  ·obtain rfl:j=4:=by omega
   simp[G];refine I _ t (by simp) (by simp) (by simp) (by omega) ?_
   rw[show 4*(i+1)=4*i+4 by omega];exact g
 ·obtain rfl:i=k:=by omega
  rw[u4 e.1]at p;simp;refine E _ _ _ ?_;simp;exact⟨o,by simpa [ny]using p⟩
theorem FO{neg:Bool}{n:Nat}:(l9 neg n).natAbs=n:=by
 unfold l9;cases neg<;>simp
theorem Ht{neg:Bool}{n d:Nat}(a:0<d):(mkRat (l9 neg n) d).num=l9 neg (n/Nat.gcd n d)/\(mkRat (l9 neg n) d).den=d/Nat.gcd n d:=by
 unfold mkRat;rw[dif_neg (Nat.ne_of_gt a),zS];simp only[FO];refine⟨?_,trivial⟩;unfold l9;cases neg
 ·simp
 ·have h:((Nat.gcd n d:Nat):Int)∣(n:Int):=Int.natCast_dvd_natCast.2 (Nat.gcd_dvd_left n d);simp[Int.neg_ediv_of_dvd h]
theorem Hy{neg:Bool}{n d:Nat}(a:0<d)(e:neg=true->0<n):bk (mkRat (l9 neg n) d)=(if neg=true then[45] else[])++(Lib.decDigits (n/Nat.gcd n d)++if d/Nat.gcd n d=1 then[] else 47::Lib.decDigits (d/Nat.gcd n d)):=by
 obtain⟨b,f⟩:=Ht (neg:=neg) (n:=n) a;have g:0<Nat.gcd n d:=Nat.gcd_pos_of_pos_right _ a;have c:(mkRat (l9 neg n) d<0)↔neg=true:=by
  rw[zn,b]
  cases neg with
  | false=>exact⟨λh=>absurd h (Int.not_lt.2 (Int.natCast_nonneg (n/Nat.gcd n d))),λh=>by cases h⟩
  | true=>
    have:=Nat.div_pos (Nat.le_of_dvd (e rfl) (Nat.gcd_dvd_left n d)) g;exact⟨λ_=>rfl,λ_=>by show -((n/Nat.gcd n d:Nat):Int)<0;omega⟩
 unfold bk;rw[f,b,FO];by_cases h:neg=true
 ·rw[aL h,aL (c.2 h)]
 ·rw[aw h,aw λe=>h (c.1 e)]
theorem fB.Fv{v:Value}{k n:Nat}(h:fB H v k n):(Lib.decDigits n).length<=4*k+1:=by
 rw[Lib.decDigits_length];refine zk ?_ (by omega);have a:=h.kS.1;have e:(10000:Nat)^k=10^(4*k):=by rw[qm]
 rw[e]at a;exact fK a (hX (by decide) (by omega))
theorem Hl(b:oy X)(g:bl pm H){v:Value}{k n d:Nat}{neg:Bool}(l:px H v k neg n d)(av:k<90000):Call X pm F.q2 [v] H λr ab=>K pm H ab/\r=ak (bk (mkRat (l9 neg n) d)):=by
 refine Call.W b.q2 rfl λaa k=>?_;have O:=l.d;have P:=l.s;rw[Hy O P]at k;obtain⟨_,_,v,w,rfl,i1,i2,_,_⟩:=id l.ex;obtain⟨x,y,rfl⟩:=i1.form;obtain⟨z,A,rfl⟩:=i2.form;obtain⟨p,L⟩:∃p,p=H.next:=⟨_,rfl⟩;have ab:pm.may p=true:=g.may (by omega);obtain⟨M,B⟩:∃C,C=H.new (.cells [.bool neg,.slice x v y,.slice z w A] (.t T.vT)):=⟨_,rfl⟩;have E:K pm H M:=by rw[B];exact K.new g _
 have O:=E.q;have P:M.get p=some (.cells [.bool neg,.slice x v y,.slice z w A] (.t T.vT)):=by rw[B,L];exact cc
 simp[g.make,g.pick,ptr,<-L,<-B,P,bB,bA,-Cr,-BQ];refine al.of (aq:=[.agg #[.bool neg,.slice x v y,.slice z w A]]) (G7 b O (l.ext (E.ext g)) av) ?_;rintro _ H2 ⟨F,G⟩;have l:=F.q;have m:=F.some O P;have ad:=G.d;obtain⟨N,hN⟩:∃N,N=n/Nat.gcd n d:=⟨_,rfl⟩;obtain⟨D,Q⟩:∃D,D=d/Nat.gcd n d:=⟨_,rfl⟩;rw[<-hN,<-Q]at G k;rw[<-Q]at ad;obtain⟨_,_,c,a,rfl,R,S,_,_⟩:=G.ex;obtain⟨o,q,rfl⟩:=R.form;obtain⟨e,f,rfl⟩:=S.form;obtain⟨r,h⟩:∃C,C=H2.put p (.cells [.bool neg,.slice o c q,.slice e a f] (.t T.vT)):=⟨_,rfl⟩;have I:K pm H r:=by rw[h];exact aC.put (K.trans E F) (by omega) m (by simp) _
 have J:=I.q;have U:r.get p=some (.cells [.bool neg,.slice o c q,.slice e a f] (.t T.vT)):=by rw[h];exact bO
 have V:fB r (.slice o c q) c N:=by rw[h];exact R.q' m
 have W:fB r (.slice e a f) a D:=by rw[h];exact S.q' m
 simp[m,setCells,ab,<-h,U,-Cq,-BP];refine al.of (aq:=[.slice o c q]) (Fx b J V (by omega)) ?_;rintro _ t ⟨i,rfl⟩;have j:=i.q;have u:=i.some J U;have c:=V.Fv;have c:=W.Fv
 have Y:∀(l:bn) (s:List UInt8),aF 1 l=some (.pointer (some ⟨p,0,none⟩))->aF 3 l=some (ak s)->s.length<=400002->s++(if D=1 then[] else 47::Lib.decDigits D)=(if neg=true then[45] else[])++(Lib.decDigits N++if D=1 then[] else 47::Lib.decDigits D)->
  wp X pm (.code tL) l t [] aa:=by
  intro l s H T _ g;have d:=K.new j (.cells [.int .i64 1] (.n 1));have c:(t.new (.cells [.int .i64 ((1:Nat):Int)] (.n 1))).get t.next=some (.cells [.int .i64 ((1:Nat):Int)] (.n 1)):=cc;have Z:=(W.ext (i.ext J)).ext (d.ext j);simp[H,u,j.make,j.pick,fill,setCells,-Cb,-BN,-vU];refine al.of (aq:=[.slice e a f,.slice (some ⟨t.next,0,none⟩) 1 1]) (yC b.toNE Z (fB.one c (by decide) (by decide)) (by omega) (by decide)) ?_;rintro _ _ ⟨rfl,rfl⟩;have c:=d.q;have h:=d.some j u;by_cases n:D=1
  ·have j:¬0<oz D 1:=by simp;omega
   rw[aL n]at g;simp[j,T];refine k _ _ _ ?_;simp;exact⟨K.trans I (K.trans i d),by simpa [n]using g⟩
  ·have j:0<oz D 1:=by simp;omega
   rw[aw n]at g;simp[j,T,H,h,-BU,-vU];refine al.of (aq:=[.slice e a f]) (Fx b c Z (by omega)) ?_;rintro _ _ ⟨X,rfl⟩;simp[show 1+(Lib.decDigits D).length<=4294967296 by omega, show s.length+((Lib.decDigits D).length+1)<=4294967296 by omega];refine k _ _ _ ?_;simp[n];exact⟨K.trans I (K.trans i (K.trans d X)),g⟩
 cases neg with
 | false=>
   simp[u,-tL];exact Y _ (Lib.decDigits N) (by simp) (by simp) (by omega) (by simp)
 | true=>
   simp[u,show 1+(Lib.decDigits N).length<=4294967296 by omega,-tL];exact Y _ (45::Lib.decDigits N) (by simp) (by simp) (by simp;omega) (by simp)
def lR(H:ae)(v:Value)(k:Nat)(q:Rat):Prop:=∃a n d,px H v k a n d/\q=mkRat (l9 a n) d
theorem lR.ext{v:Value}{k:Nat}{q:Rat}(h:lR H v k q)(e:Ext H ab):lR ab v k q:=by
 obtain⟨a,n,d,h,rfl⟩:=h;exact⟨a,n,d,h.ext e,rfl⟩
theorem lR.mono{v:Value}{k dy:Nat}{q:Rat}(h:lR H v k q)(av:k<=dy):lR H v dy q:=by
 obtain⟨a,n,d,h,rfl⟩:=h;obtain⟨b,c,e,f,g,i,j,_,_⟩:=h.ex;exact⟨a,n,d,⟨⟨b,c,e,f,g,i,j,by omega,by omega⟩,h.d,h.s⟩,rfl⟩
theorem lR.form{v:Value}{k:Nat}{q:Rat}(h:lR H v k q):∃neg a b c d e f,v=.agg #[.bool neg,.slice a b c,.slice d e f]:=by
 obtain⟨neg,_,_,h,rfl⟩:=h;obtain⟨_,_,b,e,rfl,g,i,_⟩:=h.ex;obtain⟨a,c,rfl⟩:=g.form;obtain⟨d,f,rfl⟩:=i.form;exact⟨_,_,_,_,_,_,_,rfl⟩
theorem lR.q'{v:Value}{k p:Nat}{q:Rat}{x:Bool}{l aU:List Value}{z acH:cM}(h:lR H v k q)(a:H.get p=some (.cells (.bool x::l) z)):lR (H.put p (.cells aU acH)) v k q:=by
 obtain⟨b,n,d,h,rfl⟩:=h;obtain⟨c,e,f,g,i,j,k,l,m⟩:=h.ex;exact⟨b,n,d,⟨⟨c,e,f,g,i,j.q' a,k.q' a,l,m⟩,h.d,h.s⟩,rfl⟩
theorem Hu(q:Rat):mkRat (l9 (decide (q<0)) q.num.natAbs) q.den=q:=by rw[Iw,Rat.mkRat_self]
theorem lR.of{v:Value}{k:Nat}{q:Rat}(h:px H v k (decide (q<0)) q.num.natAbs q.den):lR H v k q:=⟨_,_,_,h,(Hu q).symm⟩
theorem It(a:oy X)(g:bl pm H){v:Value}{k:Nat}{q:Rat}(h:lR H v k q)(av:k<90000):Call X pm F.q2 [v] H λr ab=>K pm H ab/\r=ak (bk q):=by
 obtain⟨_,_,_,h,rfl⟩:=h;exact Hl a g h av
theorem HJ(a:oy X)(g:bl pm H){x:Int}(b7:-9223372036854775808<=x)(cH:x<9223372036854775808):Call X pm F.qR [.int .i64 x] H λr ab=>K pm H ab/\lR ab r 5 (x:Rat):=by
 refine(Hi a g b7 cH).mono ?_;rintro r ab ⟨a,b⟩;refine⟨a,_,_,_,b,?_⟩;have e:l9 (decide (x<0)) x.natAbs=x:=by
  unfold l9;by_cases h:x<0<;>simp[h]<;>omega
 rw[e,Rat.mkRat_one]
theorem FF(a:oy X)(g:bl pm H){x:Int}(b7:-9223372036854775808<=x)(cH:x<9223372036854775808):Call X pm F.q9 [.int .i64 x] H λr ab=>K pm H ab/\r=ak (bk (x:Rat)):=by
 refine Call.W a.q9 rfl λ_ c=>?_;have d:wr .i64 x=x:=cE (aP:=b7) (h:=cH);simp[-E2];refine al.of (aq:=[.int .i64 x]) (HJ a g b7 cH) ?_;rintro u _ ⟨b,d⟩;simp[-EX];refine al.of (aq:=[u]) (It a b.q d (by decide)) ?_;rintro _ _ ⟨e,rfl⟩;simp;refine c _ _ _ ?_;simp;exact K.trans b e
theorem Hv{b:Nat}(aP:0<b)(c:b<=1000000)(a:Int):∃k:Nat,k<b/\(a.tmod b+b).tmod b=(k:Int)/\wr .i64 (a.tmod b)=a.tmod b/\wr .i64 (a.tmod b+b)=a.tmod b+b:=by
 have c:-(b:Int)<a.tmod b:=by have:=Int.lt_tmod_of_pos a (show(0:Int)<b by omega);omega
 have c:a.tmod b<b:=Int.tmod_lt_of_pos a (by omega);have c:=Int.tmod_lt_of_pos (a.tmod b+b) (show(0:Int)<b by omega);have c:0<=(a.tmod b+b).tmod b:=Int.tmod_nonneg _ (by omega);exact⟨((a.tmod b+b).tmod b).toNat,by omega,by omega,cE,cE⟩
def ar.qY(aa:ar)(r:b9):ar:=⟨aa.a,aa.rows++[r]⟩
end Go.Dam.C
namespace Go.Dam.C
open Go Go.Dam
variable{X:aA}{pm cu:Perm}{H ab bX ai:ae}{n:Nat}
theorem yh{w cR c i:Nat}{ch xs:List Value}(g:bl pm H)(h:0<i->H.get c=some (.cells ch (.n w))/\ch.length=i*w/\pm.may c=true)(aP:i=0->ch=[])(b:xs.all dd=true)(d:1<=w)(f:i<1000000)(f:cR<=200):
 (fj w cR (aZ c i) xs 1).run pm H=some (aZ H.next (i+1),(ia H c i).new (.cells (ch++xs) (.n w))):=by
 have a:(i+1)*cR<=17179869184:=a8 (nZ _ f) (by omega);by_cases e:i=0
 ·subst e;rw[aP rfl];unfold fj;simp at a;simp only[b,aZ];simp[g.make,g.pick,a,d,ia]
 ·obtain⟨c,f,j⟩:=h (by omega);have k:bB ch 0 (i*w)=some ch:=by rw[<-f];exact G1 ch
  rw[dA (by omega),dA (by omega)];unfold fj;simp only[b];simp[g.make,g.pick,a,c,k,j,d,show ¬(i+1<=i) by omega,show i+1<=17179869184 by omega,ia,e]
structure hD(H:ae)(aW c k w:Nat)(f:Nat->List Value)(L:List Value):Prop where
 h:0<k->aW<=c/\H.get c=some (.cells L (.n w))
 z:k=0->L=[]
 F5:ey L w k f
theorem hD.nil{aW c w:Nat}{f:Nat->List Value}:hD H aW c 0 w f []:=⟨λh=>absurd h (Nat.lt_irrefl _),λ_=>rfl,by simp,λ_ a=>absurd a (gS _)⟩
theorem hD.same{aW c k w:Nat}{f:Nat->List Value}{L:List Value}(h:hD H aW c k w f L)(e:0<k->∀y,H.get c=some y->ab.get c=some y):hD ab aW c k w f L:=
 ⟨λa=>⟨(h.h a).1,e a _ (h.h a).2⟩,h.z,h.F5⟩
theorem hD.k{aW c k w:Nat}{f:Nat->List Value}{L:List Value}(h:hD H aW c k w f L)(g:bl pm H)(u:K pm H ab):hD ab aW c k w f L:=h.same λ_ _ e=>u.some g e
theorem hD.lt{aW c k w:Nat}{f:Nat->List Value}{L:List Value}(h:hD H aW c k w f L)(g:bl pm H)(av:0<k):c<H.next:=g.lt (h.h av).2
theorem hD.congr{aW c k w:Nat}{f ic:Nat->List Value}{L:List Value}(h:hD H aW c k w f L)(e:∀j,j<k->ic j=f j):hD H aW c k w ic L:=
 ⟨h.h,h.z,h.F5.1,λj a=>by rw[e j a];exact h.F5.2 j a⟩
theorem hD.nd{aW c k w:Nat}{f:Nat->List Value}{L:List Value}{P:Nat->List Value->Prop}(h:hD H aW c k w f L)(a:∀i,i<k->P i (f i)):dE H (aZ c k) k w P:=ey.nd (λb=>⟨L,(h.h b).2,h.F5⟩) a
theorem hD.vL{aW c k w cR b ah:Nat}{fJ:List Nat}{f:Nat->List Value}{L xs:List Value}(h:hD H aW c k w f L)(d:ah<=aW)(e:xs.all dd=true)(g:xs.length=w)(i:1<=w)(l:k<1000000)(m:cR<=200)(n:aW<=b):
 (fj w cR (aZ c k) xs 1).runT ⟨ah,fJ,some b⟩ H=some (aZ b (k+1),(ia H c k).put b (.cells (L++xs) (.n w)),tY c k,tZ c k b)/\hD ((ia H c k).put b (.cells (L++xs) (.n w))) aW b (k+1) w (λj=>if j=k then xs else f j) (L++xs):=
 ⟨C.vL (λa=>⟨(h.h a).2,h.F5.1,ej (a8 d (h.h a).1)⟩) h.z e i l m,⟨λ_=>⟨n,bO⟩,λ_=>by omega,h.F5.app g⟩⟩
theorem hD.yh{aW c k w cR:Nat}{f:Nat->List Value}{L xs:List Value}(h:hD H aW c k w f L)(g:bl pm H)(a:pm.ah<=aW)(b:xs.all dd=true)(d:xs.length=w)(e:1<=w)(i:k<1000000)(l:cR<=200)(m:aW<=H.next):
 (fj w cR (aZ c k) xs 1).run pm H=some (aZ H.next (k+1),(ia H c k).new (.cells (L++xs) (.n w)))/\hD ((ia H c k).new (.cells (L++xs) (.n w))) aW H.next (k+1) w (λj=>if j=k then xs else f j) (L++xs):=by
 refine⟨C.yh g (λa=>⟨(h.h a).2,h.F5.1,?_⟩) h.z b e i l,⟨λ_=>⟨m,?_⟩,λ_=>by omega,h.F5.app d⟩⟩
 ·have:=(h.h a).1;unfold Perm.may;rw[show Nat.ble pm.ah c=true from Nat.ble_eq_true_of_le (by omega)];rfl
 ·have:(ia H c k).next=H.next:=rb;rw[<-this];exact cc
end Go.Dam.C
namespace Go.Dam.C
open Go Go.Dam
variable{X:aA}{pm cu:Perm}{H ab bX ai:ae}{n:Nat}
structure sO(X:aA):Prop extends oy X where
 so:Has X F.so C.so
theorem FV(U:sO X)(g:bl pm H){eN n k c:Nat}{F:Value}{aq:List Int}{L:List Value}(V:ai.next<=eN)(G:bl pm ai)(x:K pm ai H)(av:k<100)(y:H.get eN=some (.cells [aZ c k,.slice none 0 0] (.t T.mg)))(f:hD H (eN+1) c k 5 (λj=>(kR aq j).cells) L)
 {R:cl} {l:bn} (W:aF 0 l=some (.int .i64 (n:Int))) (Y:aF 1 l=some F) (B:aF 6 l=some (.pointer (some ⟨eN,0,none⟩))) (Z:aF 7 l=some (.int .i64 (k:Int))) (l8:aF 8 l=some (.int .i64 (nD aq k)))
 (hR:∀aU ab I ea,Sub [(0,.int .i64 (n:Int)),(1,F),(6,.pointer (some ⟨eN,0,none⟩)),(7,.int .i64 (k:Int))] aU->K pm ai ab->ab.get eN=some (.cells [aZ I (k+1),.slice none 0 0] (.t T.mg))->hD ab (eN+1) I (k+1) 5 (λj=>(kR aq j).cells) ea->R .normal aU ab):
 wp X pm (.code C.sM) l H [] R:=by
 have F:=g.lt y;have F:=yw (aq:=aq) (j:=k);obtain⟨z,d⟩:∃z,z=H.next:=⟨_,rfl⟩;have J:K pm H (H.up 9):=(K.refl g).up 9;have M:=λj=>(by rw[d];exact g.none j:(H.up 9).get (z+j)=none);have aa:=(by rw[d];exact g.O:(H.up 9).get z=none);simp;refine cx.of g.ah rfl ?_;rw[<-d];simp[b8,M,aa,y,B,l8];refine cY J.q (aq:=[.int .i64 (nD aq k)]) (by simp[M]) rfl (λcu F=>FF U.tooy F (by omega) (by omega)) ?_;rintro _ p q rfl;have F:=q.q;have r:∀j,j<9->p.get (z+j)=none:=λj N=>by rw[d];exact q.res g j N
 obtain⟨a,m⟩:∃a:List Value,a=[.string ⟨#[120]⟩,.string ⟨#[48]⟩,.string ⟨#[]⟩,ak (bk (nD aq k:Rat)),.bool false]:=⟨_,rfl⟩;have ad:a=(kR aq k).cells:=m;obtain⟨s,e⟩:∃A,A=p.put (z+5) (.cells a (.n 5)):=⟨_,rfl⟩;have F:K pm H p:=J.trans q;have I:(H.up 9).next=z+9:=by rw[d];rfl
 have I:=q.next;have t:K pm H s:=by rw[e];exact aC.fill F (by omega) (r 5 (by decide)) (by omega) _
 have D:0<k->c<z:=λh=>by rw[d];exact f.lt g h
 obtain⟨O,P⟩:=(f.k g t).vL (cR:=72) (b:=z+6) (fJ:=pm.ok) (xs:=a) (by have:=G.ah;omega:pm.ah<=eN+1) (by rw[m];rfl) (by rw[m];rfl) (by decide) (by omega) (by decide) (by omega);obtain⟨u,v⟩:∃A,A=(ia s c k).put (z+6) (.cells (L++a) (.n 5)):=⟨_,rfl⟩;rw[<-v]at O P;have Q:s.get (z+6)=none:=by rw[e,a6 (by omega)];exact r 6 (by decide)
 have ae:s.get (z+5)=some (.cells a (.n 5)):=by rw[e];exact bO
 have d:0<k->eN≠c:=λh=>by have:=(f.h h).1;omega
 have af:∀j,j≠5->j≠6->j<9->u.get (z+j)=none:=λj _ _ q=>by rw[v,a6 (by omega),ib (λh=>by have:=D h;omega),e,a6 (by omega)];exact r j q
 have S:u.get eN=some (.cells [aZ c k,.slice none 0 0] (.t T.mg)):=by rw[v,a6 (by omega),ib d];exact t.some g y
 obtain⟨E,w⟩:∃A,A=u.put eN (.cells [aZ (z+6) (k+1),.slice none 0 0] (.t T.mg)):=⟨_,rfl⟩;have ag:∀b i,dd (aZ b i)=true:=λb i=>by unfold aZ;split<;>rfl
 have aj:∀b i,(aZ b i).cells=#[aZ b i]:=λb i=>by unfold aZ;split<;>rfl
 have d:a.length=5:=by rw[m];rfl
 have i:a.take 5=a:=by rw[<-d];exact xj
 have a:=λo=>ej (ah:=pm.ah) (ok:=pm.ok) (o:=o) (b:=eN) (by have:=G.ah;omega);have q:c6 [z+5] [eN]=true:=gd (by omega);have s:eN<z:=by omega
 simp[r,B,setCells,bB,bA,aj,ag,fill,<-m,d,i,Perm.make,Perm.pick,<-e,Q,ae,O,af,S,a,<-w,b3,bZ,fT,cU,dj,q,s];refine⟨λ_ a=>.inl (.inl (.inl (vJ D a))),?_⟩;have a:K pm ai E:=by
  have b:aC pm ai.next H u:=by
   rw[v];exact aC.fill (aC.ia (t.mono x.next) λh=>⟨by have:=(f.h h).1;omega,t.some g (f.h h).2⟩) (by have:=x.next;omega) (by rw[ib (λh=>by have:=D h;omega)];exact Q) (by rw[rb,e];show z+6<p.next;omega) _
  have c:aC pm ai.next H E:=by rw[w];exact aC.put b V S (by simp) _
  exact aC.trans x c
 refine hR _ _ (z+6) _ ?_ a (by rw[w];exact bO) ((P.same (ab:=E) λ_ _ h=>by rw[w,a6 (by omega)];exact h).congr λj N=>?_)
 ·simp[W,Y,B,Z]
 ·by_cases b:j=k
  ·subst b;rw[aL rfl,ad]
  ·rw[aw b]
end Go.Dam.C
namespace Go.Dam.C
open Go Go.Dam
variable{X:aA}{pm cu:Perm}{H ab bX ai:ae}{n:Nat}
abbrev lW(v:Nat->Int)(k q:Nat):List Value:=((iB v k).getD q VX).cells
theorem F0{v:Nat->Int}{k q:Nat}(a:q<(iB v k).length):lW v (k+1) q=lW v k q:=by
 unfold lW;rw[show iB v (k+1)=if v k=0 then iB v k else iB v k++[⟨k,bk (v k:Rat)⟩] from rfl];split
 ·rfl
 ·rw[e5,e5,hY a]
theorem FU(hX:sO X)(g:bl pm H){eN a n i k c:Nat}{y:Value}{v:Nat->Int}{L:List Value}(R:bl pm ai)(w:K pm ai H)(hp:ai.next<=a)(av:k<100)(S:(v k).natAbs<1000000000)(r:H.get a=some (.cells [.string ⟨#[114]⟩,.int .i64 1,aZ c (iB v k).length,.string ⟨#[48]⟩,.string ⟨#[]⟩] (.t T.nA)))
 (e:hD H (a+1) c (iB v k).length 2 (lW v k) L)
 {S:cl} {l:bn} (U:aF 0 l=some (.int .i64 (n:Int))) (V:aF 1 l=some y) (W:aF 6 l=some (.pointer (some ⟨eN,0,none⟩))) (Y:aF 9 l=some (.int .i64 (i:Int))) (x:aF 10 l=some (.pointer (some ⟨a,0,none⟩))) (M:aF 11 l=some (.int .i64 (k:Int))) (N:aF 12 l=some (.int .i64 (v k)))
 (O:∀aU ab Z ea,Sub [(0,.int .i64 (n:Int)),(1,y),(6,.pointer (some ⟨eN,0,none⟩)),(9,.int .i64 (i:Int)),(10,.pointer (some ⟨a,0,none⟩)),(11,.int .i64 (k:Int))] aU->K pm ai ab->ab.get a=some (.cells [.string ⟨#[114]⟩,.int .i64 1,aZ Z (iB v (k+1)).length,.string ⟨#[48]⟩,.string ⟨#[]⟩] (.t T.nA))->hD ab (a+1) Z (iB v (k+1)).length 2 (lW v (k+1)) ea->S .normal aU ab):
 wp X pm (.code C.sN) l H [] S:=by
 have y:=g.lt r;have f:iB v (k+1)=if v k=0 then iB v k else iB v k++[⟨k,bk (v k:Rat)⟩]:=rfl
 by_cases y:v k=0
 ·rw[aL y]at f;simp[N,y];refine O _ _ c L ?_ w (by rw[f];exact r) ?_
  ·simp[U,V,W,Y,x,M]
  ·have:lW v (k+1)=lW v k:=by unfold lW;rw[f]
   rw[this,f];exact e
 have ag:(v k==0)=false:=by
  rw[lz];simpa using y
 rw[aw y]at f;obtain⟨m,B⟩:∃m,m=(iB v k).length:=⟨_,rfl⟩;have y:(iB v (k+1)).length=m+1:=by rw[f,B];simp
 have S:m<=k:=by rw[B];exact ys
 rw[<-B]at r e;rw[y]at O;obtain⟨z,p⟩:∃z,z=H.next:=⟨_,rfl⟩;have kU:K pm H (H.up 10):=(K.refl g).up 10;have aa:=λj=>(by rw[p];exact g.none j:(H.up 10).get (z+j)=none);have aj:=(by rw[p];exact g.O:(H.up 10).get z=none);simp[N,ag];refine cx.of g.ah rfl ?_;rw[<-p];simp[b8,aa,aj,r,x,M,N];refine cY kU.q (aq:=[.int .i64 (v k)]) (by simp[aa]) rfl (λcu y=>FF hX.tooy y (by omega) (by omega)) ?_;rintro _ D E rfl;have y:=E.q;have F:∀j,j<10->D.get (z+j)=none:=λj hj=>by rw[p];exact E.res g j hj
 obtain⟨d,s⟩:∃d:List Value,d=[.int .i64 (k:Int),ak (bk (v k:Rat))]:=⟨_,rfl⟩;obtain⟨t,q⟩:∃A,A=D.put (z+6) (.cells d (.n 2)):=⟨_,rfl⟩;have y:K pm H D:=kU.trans E;have N:(H.up 10).next=z+10:=by rw[p];rfl
 have N:=E.next;have G:K pm H t:=by rw[q];exact aC.fill y (by omega) (F 6 (by decide)) (by omega) _
 have P:0<m->c<z:=λh=>by rw[p];exact e.lt g h
 obtain⟨e1,ad⟩:=(e.k g G).vL (cR:=24) (b:=z+7) (fJ:=pm.ok) (xs:=d) (by have:=R.ah;omega:pm.ah<=a+1) (by rw[s];rfl) (by rw[s];rfl) (by decide) (by omega) (by decide) (by omega);obtain⟨u,I⟩:∃A,A=(ia t c m).put (z+7) (.cells (L++d) (.n 2)):=⟨_,rfl⟩;rw[<-I]at e1 ad;have ae:t.get (z+7)=none:=by rw[q,a6 (by omega)];exact F 7 (by decide)
 have al:t.get (z+6)=some (.cells d (.n 2)):=by rw[q];exact bO
 have p:0<m->a≠c:=λh=>by have:=(e.h h).1;omega
 have an:∀j,j≠6->j≠7->j<10->u.get (z+j)=none:=λj _ _ y=>by rw[I,a6 (by omega),ib (λh=>by have:=P h;omega),q,a6 (by omega)];exact F j y
 have af:u.get a=some _:=(by rw[I,a6 (by omega),ib p]:u.get a=t.get a).trans (G.some g r);obtain⟨Q,J⟩:∃A,A=u.put a (.cells [.string ⟨#[114]⟩,.int .i64 1,aZ (z+7) (m+1),.string ⟨#[48]⟩,.string ⟨#[]⟩] (.t T.nA)):=⟨_,rfl⟩;have ao:∀b i,dd (aZ b i)=true:=λb i=>by unfold aZ;split<;>rfl
 have ar:∀b i,(aZ b i).cells=#[aZ b i]:=λb i=>by unfold aZ;split<;>rfl
 have p:d.length=2:=by rw[s];rfl
 have r:d.take 2=d:=by rw[<-p];exact xj
 have d:=λo=>ej (ah:=pm.ah) (ok:=pm.ok) (o:=o) (b:=a) (by have:=R.ah;omega);have t:c6 [z+6] [a]=true:=gd (by omega);have y:a<z:=by omega
 simp[F,x,setCells,bB,bA,ar,ao,fill,<-s,p,r,Perm.make,Perm.pick,<-q,ae,al,e1,an,af,d,<-J,b3,bZ,fT,cU,dj,t,y];refine⟨λ_ a=>.inl (.inl (.inl (vJ P a))),?_⟩;have a:K pm ai Q:=by
  have b:aC pm ai.next H u:=by
   rw[I];exact aC.fill (aC.ia (G.mono w.next) λh=>⟨by have:=(e.h h).1;omega,G.some g (e.h h).2⟩) (by have:=w.next;omega) (by rw[ib (λh=>by have:=P h;omega)];exact ae) (by rw[rb,q];show z+7<D.next;omega) _
  have c:aC pm ai.next H Q:=by rw[J];exact aC.put b hp af (by simp) _
  exact aC.trans w c
 refine O _ _ (z+7) _ ?_ a (by rw[J];exact bO) ((ad.same (ab:=Q) λ_ _ h=>by rw[J,a6 (by omega)];exact h).congr λj hj=>?_)
 ·simp[U,V,W,Y,x,M]
 ·by_cases b:j=m
  ·subst b;rw[aL rfl,s];unfold lW;rw[f,B];simp[dL.cells]
  ·rw[aw b];exact F0 (by omega)
theorem FW(F:sO X)(_:bl pm H){eN a n i:Nat}{j:Value}{aq:List Int}{c:ae}(v:bl pm c)(G:pw c j aq)(I:K pm c H)(hp:a=c.next)(J:n<=5)(hi:i<10)(M:H.get a=some (.cells [.string ⟨#[114]⟩,.int .i64 1,.slice none 0 0,.string ⟨#[48]⟩,.string ⟨#[]⟩] (.t T.nA)))
 {R:cl} {aD:List Fr} {l:bn} (N:aF 0 l=some (.int .i64 (n:Int))) (O:aF 1 l=some j) (P:aF 6 l=some (.pointer (some ⟨eN,0,none⟩))) (Q:aF 9 l=some (.int .i64 (i:Int))) (S:aF 10 l=some (.pointer (some ⟨a,0,none⟩))) (U:aF 11 l=some (.int .i64 0))
 (V:∀aU ab b ea,Sub [(0,.int .i64 (n:Int)),(1,j),(6,.pointer (some ⟨eN,0,none⟩)),(9,.int .i64 (i:Int)),(10,.pointer (some ⟨a,0,none⟩))] aU->K pm c ab->ab.get a=some (.cells [.string ⟨#[114]⟩,.int .i64 1,aZ b (iB (j6 aq n i) n).length,.string ⟨#[48]⟩,.string ⟨#[]⟩] (.t T.nA))->hD ab (a+1) b (iB (j6 aq n i) n).length 2 (lW (j6 aq n i) n) ea->wp X pm (.res .normal) aU ab aD R):
 wp X pm (.code C.wB) l H aD R:=by
 obtain⟨e,f,rfl,W⟩:=G.ex;simp[-Ep]
 refine fh.of (σ:=Nat×Nat) (λs=>[(0,.int .i64 (n:Int)),(1,.slice e aq.length f),(6,.pointer (some ⟨eN,0,none⟩)),(9,.int .i64 (i:Int)),(10,.pointer (some ⟨a,0,none⟩)),(11,.int .i64 (s.1:Int))])
  (λs ab=>K pm c ab/\s.1<=n/\ab.get a=some (.cells [.string ⟨#[114]⟩,.int .i64 1,aZ s.2 (iB (j6 aq n i) s.1).length,.string ⟨#[48]⟩,.string ⟨#[]⟩] (.t T.nA))/\∃L,hD ab (a+1) s.2 (iB (j6 aq n i) s.1).length 2 (lW (j6 aq n i) s.1) L)
  (λs=>n-s.1) (0,0) (by simp[N,O,P,Q,S,U]) ⟨I,Nat.zero_le _,M,[],.nil⟩ ?_
 rintro⟨k,w⟩ G ⟨g,j,m,L,o⟩;simp only at j m o|-;have Y:=g.q;by_cases p:k<n
 ·have H:wr .i64 ((k:Int)+1)=((k+1:Nat):Int):=by rw[cE];simp
  have y:wr .i64 ((i:Int)*3)=((i*3:Nat):Int):=by rw[cE];simp
  have z:wr .i64 ((k:Int)*5)=((k*5:Nat):Int):=by rw[cE];simp
  have A:wr .i64 (((i*3:Nat):Int)+((k*5:Nat):Int))=((i*3+k*5:Nat):Int):=by rw[cE];simp
  have j:=Int.tmod_lt_of_pos ((i*3+k*5:Nat):Int) (show(0:Int)<7 by decide);have j:=Int.lt_tmod_of_pos ((i*3+k*5:Nat):Int) (show(0:Int)<7 by decide);have j:wr .i64 (((i*3+k*5:Nat):Int).tmod 7)=((i*3+k*5:Nat):Int).tmod 7:=cE;have j:wr .i64 (((i*3+k*5:Nat):Int).tmod 7-3)=((i*3+k*5:Nat):Int).tmod 7-3:=cE;have Z:wr .i64 (((i:Int)*3+(k:Int)*5)%7-3)=((i:Int)*3+(k:Int)*5).tmod 7-3:=by
   have d:((i*3+k*5:Nat):Int)=(i:Int)*3+(k:Int)*5:=by simp
   rw[d]at j;rw[<-j,Int.tmod_eq_emod_of_nonneg (by omega)]
  have j:i*n<=10*5:=gk (by omega) J;have B:wr .i64 ((i:Int)*(n:Int))=((i*n:Nat):Int):=by
   have:(i:Int)*(n:Int)=((i*n:Nat):Int):=by simp
   rw[this,cE]
  have D:wr .i64 (((i*n:Nat):Int)+(k:Int))=((i*n+k:Nat):Int):=by rw[cE];simp
  have E:∀aU:bn,aF 0 aU=some (.int .i64 (n:Int))->aF 1 aU=some (.slice e aq.length f)->aF 6 aU=some (.pointer (some ⟨eN,0,none⟩))->aF 9 aU=some (.int .i64 (i:Int))->aF 10 aU=some (.pointer (some ⟨a,0,none⟩))->aF 11 aU=some (.int .i64 (k:Int))->aF 12 aU=some (.int .i64 (j6 aq n i k))->
   wp X pm (.code C.sN) aU G [.bj 5,.seq C.tQ] (λx aU ab=>match x with
    | .normal=>kt (λs:Nat×Nat=>[(0,.int .i64 (n:Int)),(1,.slice e aq.length f),(6,.pointer (some ⟨eN,0,none⟩)),(9,.int .i64 (i:Int)),(10,.pointer (some ⟨a,0,none⟩)),(11,.int .i64 (s.1:Int))])
     (λs ab=>K pm c ab/\s.1<=n/\ab.get a=some (.cells [.string ⟨#[114]⟩,.int .i64 1,aZ s.2 (iB (j6 aq n i) s.1).length,.string ⟨#[48]⟩,.string ⟨#[]⟩] (.t T.nA))/\∃L,hD ab (a+1) s.2 (iB (j6 aq n i) s.1).length 2 (lW (j6 aq n i) s.1) L)
     (λs=>n-s.1) (k,w) aU ab
    | x=>wp X pm (.res x) aU ab (.bj 4::aD) R):=by
   intro aU j s G I J M N
   refine wp_cut (λx l d=>x=.normal/\Sub [(0,.int .i64 (n:Int)),(1,.slice e aq.length f),(6,.pointer (some ⟨eN,0,none⟩)),(9,.int .i64 (i:Int)),(10,.pointer (some ⟨a,0,none⟩)),(11,.int .i64 (k:Int))] l/\K pm c d/\∃b ea,d.get a=some (.cells [.string ⟨#[114]⟩,.int .i64 1,aZ b (iB (j6 aq n i) (k+1)).length,.string ⟨#[48]⟩,.string ⟨#[]⟩] (.t T.nA))/\hD d (a+1) b (iB (j6 aq n i) (k+1)).length 2 (lW (j6 aq n i) (k+1)) ea)
    (FU F Y v g (by omega) (by omega) yy m o j s G I J M N λl d b ea h q r t=>⟨rfl,h,q,b,ea,r,t⟩) ?_
   rintro x l d ⟨rfl,h,q,b,ea,r,t⟩;simp only[Sub]at h;obtain⟨a,c,d,e,f,j,_⟩:=h;simp[j,H];refine kt.of (k+1,b) (by show n-(k+1)<n-k;omega) ?_ ⟨q,p,r,ea,t⟩;simp[a,c,d,e,f]
  by_cases u:i*n+k<aq.length
  ·obtain⟨_,_,_,_,_,rfl,d,h,l,x,q,rfl⟩:=W (i*n+k) u;have a:j6 aq n i k=x.tmod 6-3:=by unfold j6;rw[q]
   have b:=Int.tmod_lt_of_pos x (show(0:Int)<6 by decide);have b:=Int.lt_tmod_of_pos x (show(0:Int)<6 by decide);have b:wr .i64 (x.tmod 6)=x.tmod 6:=cE;have b:wr .i64 (x.tmod 6-3)=x.tmod 6-3:=cE;simp[p,y,z,A,  B,D,u,g.some v d,h,l, b,-sN,-tQ,-Int.natCast_add,-Int.natCast_mul];exact E _ (by simp) (by simp) (by simp) (by simp) (by simp) (by simp) (by simp[a])
  ·have a:j6 aq n i k=((i*3+k*5:Nat):Int).tmod 7-3:=by unfold j6;rw[hc (by omega)]
   simp[p,y,z,A,  B,D,u,-sN,-tQ,-Int.natCast_add,-Int.natCast_mul];exact E _ (by simp) (by simp) (by simp) (by simp) (by simp) (by simp) (by simp[a];exact Z)
 ·obtain rfl:k=n:=by omega
  simp;exact V _ _ w L (by simp) g m o
end Go.Dam.C
namespace Go.Dam.C
open Go Go.Dam
variable{X:aA}{pm cu:Perm}{H ab bX ai:ae}{n:Nat}
abbrev Gf(aq:List Int)(n:Nat)(dB:Nat->Nat)(i:Nat):List Value:=(pN aq n i).cells (aZ (dB i) (iB (j6 aq n i) n).length)
structure ov(H:ae)(aW c4 i:Nat)(aq:List Int)(n:Nat)(dB:Nat->Nat)(L:List Value):Prop where
 g:hD H aW c4 i 5 (Gf aq n dB) L
 v:∀j,j<i->0<(iB (j6 aq n j) n).length->dB j<c4/\∃M,hD H aW (dB j) (iB (j6 aq n j) n).length 2 (lW (j6 aq n j) n) M
theorem ov.k{aW c4 i:Nat}{aq:List Int}{n:Nat}{dB:Nat->Nat}{L:List Value}(h:ov H aW c4 i aq n dB L)(g:bl pm H)(u:K pm H ab):ov ab aW c4 i aq n dB L:=
 ⟨h.g.k g u,λj a b=>⟨(h.v j a b).1,(h.v j a b).2.imp λ_ q=>q.k g u⟩⟩
theorem hD.mono{aW a c k w:Nat}{f:Nat->List Value}{L:List Value}(h:hD H aW c k w f L)(e:a<=aW):hD H a c k w f L:=⟨λa=>⟨a8 e (h.h a).1,(h.h a).2⟩,h.z,h.F5⟩
theorem FT(g:bl pm H){eN k n i c a c4 d:Nat}{U:Value}{aq:List Int}{dB:Nat->Nat}{L M:List Value}{f:Nat->List Value}{V:List Value}(W:bl pm ai)(x:K pm ai H)(Y:ai.next<=eN)(ad:eN<k)(o:i<100)
 (B:H.get eN=some (.cells [aZ a d,aZ c4 i] (.t T.mg))) (D:H.get k=some (.cells [.string ⟨#[114]⟩,.int .i64 1,aZ c (iB (j6 aq n i) n).length,.string ⟨#[48]⟩,.string ⟨#[]⟩] (.t T.nA)))
 (Z:hD H (eN+1) a d 5 f V) (ah:0<d->a<k) (p:ov H (eN+1) c4 i aq n dB L) (aa:0<i->c4<k) (u:hD H (k+1) c (iB (j6 aq n i) n).length 2 (lW (j6 aq n i) n) M)
 (aj:0<d->0<i->a<c4)
 {ad:cl} {l:bn} (l0:aF 0 l=some (.int .i64 (n:Int))) (l1:aF 1 l=some U) (l6:aF 6 l=some (.pointer (some ⟨eN,0,none⟩))) (l9:aF 9 l=some (.int .i64 (i:Int))) (ak:aF 10 l=some (.pointer (some ⟨k,0,none⟩)))
 (hR:∀aU ab k al ea,Sub [(0,.int .i64 (n:Int)),(1,U),(6,.pointer (some ⟨eN,0,none⟩)),(9,.int .i64 (i:Int))] aU->K pm ai ab->ab.get eN=some (.cells [aZ a d,aZ k (i+1)] (.t T.mg))->hD ab (eN+1) a d 5 f V->ov ab (eN+1) k (i+1) aq n al ea->(0<d->a<k)->ad .normal aU ab):
 wp X pm (.code C.tO) l H [] ad:=by
 have k:=g.lt B;have k:=g.lt D;obtain⟨E,F⟩:∃E,E=(iB (j6 aq n i) n).length:=⟨_,rfl⟩;rw[<-F]at D u;obtain⟨xs,v⟩:∃xs:List Value,xs=[.string ⟨#[114]⟩,.int .i64 1,aZ c E,.string ⟨#[48]⟩,.string ⟨#[]⟩]:=⟨_,rfl⟩;have ae:∀b i,dd (aZ b i)=true:=λb i=>by unfold aZ;split<;>rfl
 have an:∀b i,(aZ b i).cells=#[aZ b i]:=λb i=>by unfold aZ;split<;>rfl
 have ao:xs.all dd=true:=by rw[v];simp[ae]
 have G:xs.length=5:=by rw[v];rfl
 have ar:xs.take 5=xs:=by rw[<-G];exact xj
 obtain⟨y,I⟩:∃y,y=H.next:=⟨_,rfl⟩;obtain⟨m,w⟩:∃A,A=H.new (.cells xs (.n 5)):=⟨_,rfl⟩;have q:K pm H m:=by rw[w];exact K.new g _
 have k:=q.q;have n1:m.next=y+1:=by rw[w,I];rfl
 have au:m.get y=some (.cells xs (.n 5)):=by rw[w,I];exact cc
 obtain⟨J,N⟩:=(p.g.k g q).yh k (cR:=80) (xs:=xs) (by have:=W.ah;omega) ao G (by decide) (by omega) (by decide) (by omega);obtain⟨O,P⟩:∃A,A=(ia m c4 i).new (.cells (L++xs) (.n 5)):=⟨_,rfl⟩;rw[<-P]at J N;rw[n1]at J N;have nd:(ia m c4 i).next=y+1:=by rw[rb,n1]
 have af:∀b z,(0<i->b≠c4)->H.get b=some z->O.get b=some z:=λb z k h=>by
  have c:=g.lt h;rw[P,sY (by rw[nd];omega),ib k];exact q.some g h
 have ag:=af eN _ (λh=>by have:=(p.g.h h).1;omega) B;obtain⟨Q,r⟩:∃A,A=O.put eN (.cells [aZ a d,aZ (y+1) (i+1)] (.t T.mg)):=⟨_,rfl⟩;have d:pm.may eN=true:=W.may Y;have R:∀b z,b≠eN->(0<i->b≠c4)->H.get b=some z->Q.get b=some z:=λb z S s h=>by rw[r,a6 S];exact af b z s h
 simp[l6,B,ak,D,<-v,bB,bA,fill,setCells,G,ar,g.make,g.pick,<-I,<-w,au,J,ag,d,an,ae,<-r];have b:aC pm ai.next H Q:=by
  have c:aC pm ai.next H m:=q.mono x.next;have d:aC pm ai.next H O:=by
   rw[P];exact aC.new (aC.ia c λh=>⟨by have:=(p.g.h h).1;omega,q.some g (p.g.h h).2⟩) (by rw[nd];have:=x.next;omega) _
  rw[r];exact aC.put d Y ag (by simp) _
 refine hR _ _ (y+1) (λj=>if j=i then c else dB j) (L++xs) (by simp[l0,l1,l6,l9]) (aC.trans x b) (by rw[r];exact bO) (Z.same λh z e=>R a z (by have:=(Z.h h).1;omega) (λo=>by have:=aj h o;omega) e) ⟨?_,λj a t=>?_⟩ (λh=>by have:=ah h;omega)
 ·refine(N.same (ab:=Q) λ_ z h=>by rw[r,a6 (by omega)];exact h).congr λj a=>?_;by_cases e:j=i
  ·subst e;rw[aL rfl,v];show(pN aq n j).cells (aZ (if j=j then c else dB j) _)=_;rw[aL rfl,<-F];rfl
  ·rw[aw e];show(pN aq n j).cells (aZ (if j=i then c else dB j) _)=_;rw[aw e]
 ·by_cases e:j=i
  ·subst e;rw[aL rfl];rw[<-F]at t|-;have S:=u.h t;have s:=u.lt g t;exact⟨by omega,M,(u.mono (by omega)).same λ_ z h=>R c z (by omega) (λo=>by have:=aa o;omega) h⟩
  ·rw[aw e];obtain⟨S,a,s⟩:=p.v j (by omega) t;have b:=(s.h t).1;have b:=aa (by omega);exact⟨by omega,a,s.same λ_ z h=>R (dB j) z (by omega) (λo=>by omega) h⟩
end Go.Dam.C
namespace Go.Dam.C
open Go Go.Dam
variable{X:aA}{pm cu:Perm}{H ab bX ai:ae}{n:Nat}
theorem ov.aa{aW a c4:Nat}{aq:List Int}{n:Nat}{dB:Nat->Nat}{L d:List Value}(e:hD H aW a n 5 (λj=>(kR aq j).cells) d)(b:ov H aW c4 (n+2) aq n dB L):kA H (.agg #[aZ a n,aZ c4 (n+2)]) (jb aq n):=by
 have f:(jb aq n).a.length=n:=by simp[jb]
 have g:(jb aq n).rows.length=n+2:=by simp[jb]
 refine⟨_,_,rfl,?_,?_⟩
 ·show dE H _ (jb aq n).a.length 5 _;rw[f];exact e.nd λ_ a=>⟨_,by rw[ar.kc (by omega),yz a],rfl⟩
 ·show dE H _ (jb aq n).rows.length 5 _;rw[g];refine b.g.nd λi c=>⟨pN aq n i,aZ (dB i) (iB (j6 aq n i) n).length,by rw[ar.rowAt (by omega),yB c],rfl,?_⟩;show dE H _ (iB (j6 aq n i) n).length 2 _;refine ey.nd (λh=>?_) λk j=>⟨(iB (j6 aq n i) n).getD k VX,?_,rfl⟩
  ·obtain⟨_,M,q⟩:=b.v i c h;exact⟨M,(q.h h).2,q.F5⟩
  ·show(iB (j6 aq n i) n)[k]? = _;rw[e5,en j];rfl
theorem FX(m:sO X)(g:bl pm H){a:Int}{vv:Value}{aq:List Int}(ao:pw H vv aq):Call X pm F.so [.int .i64 a,vv] H λr ab=>K pm H ab/\r=.bool true:=by
 refine Call.W m.so rfl λar hQ=>?_;have au:∀c ab,K pm H ab->aF 4 c=some (.bool true)->ar .ret c ab:=λc ab k l6=>hQ _ _ _ (by simp[l6];exact k);simp[-EW,-Ev];refine al.of (aq:=[]) (Ve m.tosw g.ep) ?_;rintro _ H ⟨rfl,rfl⟩;obtain⟨D,_,av,w1,w2⟩:=Hv (show 0<4 by decide) (by decide) a;obtain⟨n,_⟩:∃n,n=2+D:=⟨_,rfl⟩;have w3:wr .i64 (D:Int)=(D:Int):=cE;have w4:wr .i64 (2+(D:Int))=(n:Int):=by rw[cE];omega
 have P:n<=5:=by omega
 obtain⟨o,p,rfl,aC⟩:=ao.ex;obtain⟨eN,aw⟩:∃b,b=H.next:=⟨_,rfl⟩;obtain⟨H1,Q⟩:∃A,A=H.new (.cells [.slice none 0 0,.slice none 0 0] (.t T.mg)):=⟨_,rfl⟩;have D:K pm H H1:=by rw[Q];exact K.new g _
 have g1:=D.q;have r1:H1.get eN=some (.cells [.slice none 0 0,.slice none 0 0] (.t T.mg)):=by rw[Q,aw];exact cc
 have aI:pm.may eN=true:=g.may (by omega);simp at w1 w2 av;simp[w2,av, w4,g.make,g.pick,ptr,<-aw,<-Q,-Es,-wC]
 refine fh.of (σ:=Nat×Nat) (λs=>[(0,.int .i64 (n:Int)),(1,.slice o aq.length p),(6,.pointer (some ⟨eN,0,none⟩)),(7,.int .i64 (s.1:Int))])
  (λs ab=>K pm H ab/\s.1<=n/\ab.get eN=some (.cells [aZ s.2 s.1,.slice none 0 0] (.t T.mg))/\∃L,hD ab (eN+1) s.2 s.1 5 (λa=>(kR aq a).cells) L)
  (λs=>n-s.1) (0,0) (by simp) ⟨D,Nat.zero_le _,r1,[],.nil⟩ ?_
 rintro⟨k,e⟩ D ⟨E,Q,R,L,S⟩;simp only at Q R S|-;have gA:=E.q;by_cases U:k<n
 ·have wk:wr .i64 ((k:Int)+1)=((k+1:Nat):Int):=by rw[cE];simp
  have ak:∀c:bn,aF 0 c=some (.int .i64 (n:Int))->aF 1 c=some (.slice o aq.length p)->aF 6 c=some (.pointer (some ⟨eN,0,none⟩))->aF 7 c=some (.int .i64 (k:Int))->aF 8 c=some (.int .i64 (nD aq k))->
   wp X pm (.code C.sM) c D [.bj 1,.seq C.tN] (λx c ab=>match x with
    | .normal=>kt (λs:Nat×Nat=>[(0,.int .i64 (n:Int)),(1,.slice o aq.length p),(6,.pointer (some ⟨eN,0,none⟩)),(7,.int .i64 (s.1:Int))])
     (λs ab=>K pm H ab/\s.1<=n/\ab.get eN=some (.cells [aZ s.2 s.1,.slice none 0 0] (.t T.mg))/\∃L,hD ab (eN+1) s.2 s.1 5 (λw=>(kR aq w).cells) L)
     (λs=>n-s.1) (k,e) c ab
    | x=>wp X pm (.res x) c ab [.bj 0,.seq C.wC] ar):=by
   intro c c D Q m7 m8
   refine wp_cut (λx y i=>x=.normal/\Sub [(0,.int .i64 (n:Int)),(1,.slice o aq.length p),(6,.pointer (some ⟨eN,0,none⟩)),(7,.int .i64 (k:Int))] y/\K pm H i/\∃a l,i.get eN=some (.cells [aZ a (k+1),.slice none 0 0] (.t T.mg))/\hD i (eN+1) a (k+1) 5 (λw=>(kR aq w).cells) l)
    (FV m gA (by omega) g E (by omega) R S c D Q m7 m8 λy i a l q z I V=>⟨rfl,q,z,a,l,I,V⟩) ?_
   rintro x y i ⟨rfl,q,z,a,l,I,V⟩;simp only[Sub]at q;obtain⟨c,i,w,y,_⟩:=q;simp[y,wk];refine kt.of (k+1,a) (by show n-(k+1)<n-k;omega) ?_ ⟨z,U,I,l,V⟩;simp[c,i,w]
  by_cases W:k<aq.length
  ·obtain⟨b,_,_,_,aD,rfl,Y,Z,a,x,i,rfl⟩:=aC k W;have r:nD aq k=x.tmod 5-4:=by unfold nD;rw[i]
   have c:=Int.tmod_lt_of_pos x (show(0:Int)<5 by decide);have c:=Int.lt_tmod_of_pos x (show(0:Int)<5 by decide);have c:wr .i64 (x.tmod 5)=x.tmod 5:=cE;have c:wr .i64 (x.tmod 5-4)=x.tmod 5-4:=cE;simp[U,W,E.some g Y,Z,a, c,-sM,-tN];exact ak _ (by simp) (by simp) (by simp) (by simp) (by simp[r])
  ·have r:nD aq k=-1:=by unfold nD;rw[hc (by omega)]
   simp[U,W,-sM,-tN];exact ak _ (by simp) (by simp) (by simp) (by simp) (by simp[r])
 obtain rfl:k=n:=by omega
 simp[-Er,-Eu]
 refine fh.of (σ:=Nat×Nat) (λs=>[(0,.int .i64 (k:Int)),(1,.slice o aq.length p),(6,.pointer (some ⟨eN,0,none⟩)),(9,.int .i64 (s.1:Int))])
  (λs ab=>K pm H ab/\s.1<=k+2/\ab.get eN=some (.cells [aZ e k,aZ s.2 s.1] (.t T.mg))/\hD ab (eN+1) e k 5 (λa=>(kR aq a).cells) L/\(0<k->0<s.1->e<s.2)/\∃c g,ov ab (eN+1) s.2 s.1 aq k c g)
  (λs=>k+2-s.1) (0,0) (by simp) ⟨E,Nat.zero_le _,R,S,λ_ g=>absurd g (Nat.lt_irrefl _),λ_=>0,[],.nil,λa a=>absurd a (gS _)⟩ ?_
 rintro⟨i,rb⟩ F ⟨t,s,u,gc,ay,c,_,G⟩;simp only at s u ay G|-;have d:=t.q;have az:wr .i64 ((k:Int)+2)=((k+2:Nat):Int):=by rw[cE];simp
 by_cases aE:i<k+2
 ·have wi:wr .i64 ((i:Int)+1)=((i+1:Nat):Int):=by rw[cE];simp
  obtain⟨C,I⟩:∃b,b=F.next:=⟨_,rfl⟩;have ab:pm.may C=true:=d.may (by omega);have ak:∀x,(F.new x).get C=some x:=λx=>by rw[I];exact cc
  obtain⟨h,V⟩:∃A,A=(F.new (.cells [.string ⟨#[]⟩,.int .i64 0,.slice none 0 0,.string ⟨#[]⟩,.string ⟨#[]⟩] (.t T.nA))).put C (.cells [.string ⟨#[114]⟩,.int .i64 1,.slice none 0 0,.string ⟨#[48]⟩,.string ⟨#[]⟩] (.t T.nA)):=⟨_,rfl⟩;have v:K pm F h:=by rw[V,I];exact gh d _ _
  have j:=v.q;have c:h.get C=some (.cells [.string ⟨#[114]⟩,.int .i64 1,.slice none 0 0,.string ⟨#[48]⟩,.string ⟨#[]⟩] (.t T.nA)):=by rw[V];exact bO
  have s:=d.lt u;have s:(i:Int)<((k+2:Nat):Int):=by omega
  simp[az,s, d.make,d.pick,ptr,fill,bA,setCells,<-I,ak,ab,<-V,-wB,-tO,-xl,-Int.natCast_add];refine FW (i:=i) (eN:=eN) (n:=k) m j d (ao.ext (t.ext g)) v I P (by omega) c (by simp) (by simp) (by simp) (by simp) (by simp) (by simp) ?_;intro _ HD _ _ a f J M;simp only[Sub]at a;obtain⟨c,s,C,D,E,_⟩:=a;simp[-tO,-xl];have F:=f.q
  refine wp_cut (λx W q=>x=.normal/\Sub [(0,.int .i64 (k:Int)),(1,.slice o aq.length p),(6,.pointer (some ⟨eN,0,none⟩)),(9,.int .i64 (i:Int))] W/\K pm H q/\∃l w y,q.get eN=some (.cells [aZ e k,aZ l (i+1)] (.t T.mg))/\hD q (eN+1) e k 5 (λo=>(kR aq o).cells) L/\ov q (eN+1) l (i+1) aq k w y/\(0<k->e<l))
   (FT F g (K.trans t f) (by omega) (by omega) (by omega) (f.some d u) J (gc.k d f) (λz=>by have:=gc.lt d z;omega) (G.k d f) (λz=>by have:=G.g.lt d z;omega) M ay c s C D E λW q l w y a X q3 q4 q5 q6=>⟨rfl,a,X,l,w,y,q3,q4,q5,q6⟩) ?_
  rintro x W q ⟨rfl,a,X,l,w,y,q3,q4,q5,q6⟩;simp only[Sub]at a;obtain⟨c,o,p,q,_⟩:=a;simp[q,wi];refine kt.of (i+1,l) (by show k+2-(i+1)<k+2-i;omega) ?_ ⟨X,aE,q3,q4,λz _=>q6 z,w,y,q5⟩;simp[c,o,p]
 obtain rfl:i=k+2:=by omega
 have aA:=ov.aa gc G;have B:=Gp (aq:=aq) P;have aa:=Gn (aq:=aq) P;have c:∀b i,dd (aZ b i)=true:=λb i=>by unfold aZ;split<;>rfl
 have c:∀b i,(aZ b i).cells=#[aZ b i]:=λb i=>by unfold aZ;split<;>rfl
 simp[az,u,bB,bA,  -ET,-Et,-Int.natCast_add];refine al.of (aq:=[.agg #[aZ e k,aZ rb (k+2)]]) (MZ m.tofC d B.ok aA (λc=>Jo B c)) ?_;rintro _ h ⟨v,hC⟩
 rcases hC with⟨FB,_⟩ | ⟨_,b,aD,rfl,hu,ax⟩
 ·rw[aa]at FB;cases FB
 have j:=v.q;obtain⟨_,_,_,rfl,c,l,o⟩:=id hu;obtain⟨ad,ae,e1,_⟩:=c.1.ex;obtain⟨af,ag,Y,_⟩:=l.1.ex;obtain⟨ah,ai,Z,_⟩:=o.1.ex;subst e1 Y Z;obtain⟨N,aj⟩:∃e,e=h.next:=⟨_,rfl⟩;have aG:pm.may N=true:=j.may (by omega);have aH:∀x,(h.new x).get N=some x:=λx=>by rw[aj];exact cc
 obtain⟨HD,an⟩:∃A,A=(h.new (.cells [.int .i64 0,.string ⟨#[]⟩,.slice none 0 0,.slice none 0 0,.slice none 0 0] (.t T.Eo))).put N (.cells [.int .i64 b.st,ak b.val,.slice ad b.x.length ae,.slice af b.d.length ag,.slice ah b.r.length ai] (.t T.Eo)):=⟨_,rfl⟩;have f:K pm h HD:=by rw[an,aj];exact gh j _ _
 have M:=f.q;have J:HD.get N=some (.cells [.int .i64 b.st,ak b.val,.slice ad b.x.length ae,.slice af b.d.length ag,.slice ah b.r.length ai] (.t T.Eo)):=by rw[an];exact bO
 have O:=K.trans v f;have c:=O.some d u;obtain⟨aB,h⟩:=fZ.ga B aa ax;simp[j.make,j.pick,ptr,bA,<-aj,aH,aG,<-an,setCells,c,J,bB,  -EJ];refine al.of (aq:=[.agg #[aZ e k,aZ rb (k+2)],.agg #[.int .i64 b.st,ak b.val,.slice ad b.x.length ae,.slice af b.d.length ag,.slice ah b.r.length ai]]) (FR m.tofC M B.ok (aA.ext (O.ext d)) ((hu.E5).ext (f.ext j)) h (fZ.len B aa ax)) ?_;rintro _ _ ⟨kE,rfl⟩;have rE:=kE.some M J;rw[aB]
 rcases Gm aB with d | ⟨c,r⟩
 ·have a:(b.st==3)=true:=by simpa using d
  simp[rE,a,aR];exact au _ _ (K.trans t (K.trans O kE)) (by simp)
 ·have a:(b.st==1)=true:=by simpa using c
  have d:(b.st==3)=false:=by simp[c]
  simp[rE,d,a,r,];exact au _ _ (K.trans t (K.trans O kE)) (by simp)
end Go.Dam.C
namespace Go.Dam.C
open Go Go.Dam Go.RowKit
section
variable{O:cy}{P:Program}{W:World}
def e8(O:cy)(W:World)(aQ:Value)(Q:ae->Value->Prop):Prop:=∀γ H,In O (λ_=>True) W γ H->∃a b v,In O (λ_=>True) W a b/\γ.le a/\Ext H b/\aO a v aQ/\Q b v
def Bd(Q:ae->Value->Prop):Prop:=∀H a v,Ext H a->Q H v->Q a v
theorem e8.plain{v:Value}(h:plainCell v=true):e8 O W v λ_ u=>u=v:=λγ H a=>⟨γ,H,v,a,.refl _,.refl _,.plainCell h,rfl⟩
theorem e8.imp{v:Value}{Q a:ae->Value->Prop}(h:e8 O W v Q)(g:∀H u,Q H u->a H u):e8 O W v a:=λγ H b=>
 let ⟨a,c,u,d,e,f,i,j⟩:=h γ H b;⟨a,c,u,d,e,f,i,g _ _ j⟩
theorem e8.list{V:Nat->Value}{Q:Nat->ae->Value->Prop}(b:∀i,Bd (Q i)):∀k,(∀i,i<k->e8 O W (V i) (Q i))->∀γ H,In O (λ_=>True) W γ H->
 ∃a ab,∃u:Nat->Value,In O (λ_=>True) W a ab/\γ.le a/\Ext H ab/\∀i,i<k->aO a (u i) (V i)/\Q i ab (u i)
 | 0,_,γ,H,a=>⟨γ,H,λ_=>.bool true,a,.refl _,.refl _,λi a=>absurd a (gS _)⟩
 | k+1,h,γ,H,a=>by
   obtain⟨f,g,u,j,l,m,n⟩:=e8.list b k (λi a=>h i (by omega)) γ H a;obtain⟨a,o,v,p,c,d,q,r⟩:=h k (by omega) f g j;refine⟨a,o,λi=>if i=k then v else u i,p,l.trans c,m.trans d,λi _=>?_⟩;by_cases e:i=k
   ·subst e;simp only[if_true];exact⟨q,r⟩
   ·simp only[e,if_false];obtain⟨p,q⟩:=n i (by omega);exact⟨p.mono c,b i _ _ _ d q⟩
theorem e8.nil{w:Nat}{Q:ae->Nat->List Value->Prop}:e8 O W (.slice none 0 0) λH u=>fS H u 0 w (Q H):=λγ H a=>
 ⟨γ,H,_,a,.refl _,.refl _,.r1,none,0,rfl,bc _,λ_=>rfl,λ_ h=>by cases h⟩
theorem e8.slice{a:Addr}{len cap w:Nat}{V:Nat->Value}{Q:Nat->ae->Value->Prop}(r:∀i,Bd (Q i))(aY:len<=cap)(y:0<w)(s:∀j,j<cap*w->W.cell? (a.add j)=some (V j))(h:∀j,j<len*w->e8 O W (V j) (Q j)):
 e8 O W (.slice (some a) len cap) λH v=>fS H v len w λi cs=>∃u:Nat->Value,cs=(List.range w).map (λk=>u (i*w+k))/\∀k,k<w->Q (i*w+k) H (u (i*w+k)):=by
 intro γ H c;obtain⟨l,d,u,m,z,A,t⟩:=e8.list r (len*w) h γ H c;have M:((List.range (len*w)).map u).length=len*w:=by simp
 have B:bN l ((List.range (len*w)).map u) ((List.range (len*w)).map V):=bN.rF (by simp) λi v _ p q=>by
  rw[jd]at p q;by_cases a:i<len*w
  ·rw[tu a]at p q;cases p;cases q;exact(t i a).1
  ·rw[hc (by simpa using a)]at p;cases p
 obtain⟨_,_,_,_⟩:=m.y9;obtain⟨b,o,C,D⟩:∃b o,qX W (λ_=>True) b o ((List.range (len*w)).map V)/\aO (l.set d.next ⟨b,o,0,0⟩) (.slice (some ⟨d.next,0,none⟩) len cap) (.slice (some a) len cap):=by
  by_cases E:cap=0
  ·subst E;obtain rfl:len=0:=by omega
   obtain⟨a,b,f,g⟩:=m.F5;exact⟨1,0,⟨trivial,a,b,f,g,by simp,by simp⟩,.nc (aT.gU _ _ _)⟩
  ·have F:0<cap*w:=tm (by omega) y;have f:=s 0 F;obtain⟨b,o,G⟩:=a;have H:G=none:=by simpa [Addr.add]using World.cell?_spot f
   subst H;obtain⟨a,h,k,g⟩:∃a h k,W.heap[b]? = some (.cells a h k):=by
    unfold World.cell? at f;split at f
    ·rename_i a e I g;exact⟨a,e,I,by simpa [Addr.add]using g⟩
    ·cases f
   have u:∀i,i<cap*w->a[o+i]? = some (V i):=by
    intro i c;have b:=s i c;rw[add_eq]at b;simpa [World.cell?,g]using b
   have N:=(gT.1 (u (cap*w-1) (by omega))).1;have O:len*w<=cap*w:=fV _ aY;refine⟨b,o,⟨trivial,a,h,k,g,by simp;omega,λi v e=>?_⟩,?_⟩
   ·rw[jd]at e;by_cases b:i<len*w
    ·rw[tu b]at e;cases e;exact u i (by omega)
    ·rw[hc (by simpa using b)]at e;cases e
   ·have:=aO.gV (γ:=l.set d.next ⟨b,o,0,0⟩) (b:=d.next) (off:=0) (n:=len) (cap:=cap) (dm:=cap) (L:=⟨b,o,0,0⟩) (aT.gU _ _ _) (bc _) aY (.inl rfl);simpa using this
 obtain⟨J,K,x⟩:=m.add C B;refine⟨_,_,_,J,z.trans K,A.trans x,D,_,cap,rfl,aY,(λh=>by cases h),λa h=>?_⟩;cases h;refine⟨d.next,0,_,rfl,.inl cc,by simp,λi c=>⟨_,pW ?_,u,?_,λk j=>r _ _ _ _ x (t _ ?_).2⟩⟩
 ·have:i*w+w<=len*w:=by rw[<-j0];exact fV _ c
  simp;omega
 ·apply n4;intro k;by_cases j:k<w
  ·have:i*w+w<=len*w:=by rw[<-j0];exact fV _ c
   rw[jY j,jZ,jd,jd,tu j,tu (by omega),Nat.zero_add];rfl
  ·rw[hc (by simp;omega),hc (by simpa using j)]
 ·have:i*w+w<=len*w:=by rw[<-j0];exact fV _ c
  omega
theorem An{v:Value}:Bd λ_ u=>u=v:=λ_ _ _ _ h=>h
theorem fS.vh{m w:Nat}{P:Nat->List Value->Prop}:Bd λH v=>fS H v m w P:=λ_ _ _ e h=>fS.imp h e λ_ _ _ h=>h
def fO:Value->List UInt8
 | .string s=>s.data.toList
 | _=>[]
def kP:Value->Int
 | .int _ n=>n
 | _=>0
def Bl:Value->Bool
 | .bool b=>b
 | _=>false
def kQ(v:Value):Prop:=∃s,v=.string s
def oN(v:Value):Prop:=∃n,v=.int .i64 n
def wv(v:Value):Prop:=∃b,v=.bool b
theorem kQ.st{v:Value}(h:kQ v):v=ak (fO v):=by obtain⟨_,rfl⟩:=h;rfl
theorem oN.int{v:Value}(h:oN v):v=.int .i64 (kP v):=by obtain⟨_,rfl⟩:=h;rfl
theorem wv.bool{v:Value}(h:wv v):v=.bool (Bl v):=by obtain⟨_,rfl⟩:=h;rfl
theorem kQ.lift{v:Value}(h:kQ v):e8 O W v λ_ u=>u=v:=by obtain⟨_,rfl⟩:=h;exact .plain rfl
theorem oN.lift{v:Value}(h:oN v):e8 O W v λ_ u=>u=v:=by obtain⟨_,rfl⟩:=h;exact .plain rfl
theorem wv.lift{v:Value}(h:wv v):e8 O W v λ_ u=>u=v:=by obtain⟨_,rfl⟩:=h;exact .plain rfl
def vG(W:World)(w:Nat)(v:Value)(E:(Nat->Value)->Prop):Prop:=v=.slice none 0 0∨∃b c a,∃V:Nat->Value,v=.slice (some b) c a/\c<=a/\(∀j,j<a*w->W.cell? (b.add j)=some (V j))/\∀i,i<a->E λk=>V (i*w+k)
def tV(W:World)(v:Value):Prop:=vG W 1 v λV=>kQ (V 0)
def AW(W:World)(v:Value):Prop:=vG W 2 v λV=>oN (V 0)/\kQ (V 1)
def AX(W:World)(v:Value):Prop:=vG W 5 v λV=>kQ (V 0)/\kQ (V 1)/\kQ (V 2)/\kQ (V 3)/\wv (V 4)
def RowsIn(W:World)(v:Value):Prop:=vG W 5 v λV=>kQ (V 0)/\oN (V 1)/\AW W (V 2)/\kQ (V 3)/\kQ (V 4)
theorem tV.lift{v:Value}(h:tV W v):∃l,e8 O W v λH u=>fp H u l:=by
 rcases h with rfl | ⟨o,e,f,V,rfl,p,q,g⟩
 ·exact⟨[],λγ H a=>⟨γ,H,_,a,.refl _,.refl _,.r1,fp.nil⟩⟩
 ·refine⟨(List.range e).map λi=>fO (V i),(e8.slice (w:=1) (Q:=λj _ u=>u=V j) (λ_=>An) p (by decide) q λj _=>?_).imp λH u h=>?_⟩
  ·have:=g j (by omega);simp only[Nat.mul_one,Nat.add_zero]at this;exact this.lift
  ·obtain⟨k,f,rfl,_,r,s⟩:=h;refine⟨k,f,by simp,λi a=>?_⟩;have a:i<e:=by simpa using a
   cases k with
   | none=>have:=r rfl;omega
   | some o=>
     obtain⟨h,m,n,rfl,b,_,t⟩:=s _ rfl;obtain⟨_,v,u,rfl,f⟩:=t i a;have e:=f 0 (by decide);simp only[Nat.mul_one,Nat.add_zero]at e;have f:=(sX v).2;have c:=congrArg (λl=>l[0]?) f;simp[e]at c;have d:=g i (by omega);simp only[Nat.mul_one,Nat.add_zero]at d;exact b.elim (λb=>⟨h,m,_,n,V i,rfl,b,rfl,c.symm,fO (V i),by simp[a],d.st⟩) λb=>⟨h,m,_,n,V i,rfl,b,rfl,c.symm,fO (V i),by simp[a],d.st⟩
theorem AW.lift{v:Value}(h:AW W v):∃l:List dL,e8 O W v λH u=>fS H u l.length 2 λi cs=>∃c,l[i]? = some c/\cs=c.cells:=by
 rcases h with rfl | ⟨_,b,_,V,rfl,c,d,a⟩
 ·exact⟨[],e8.nil⟩
 ·refine⟨(List.range b).map λi=>⟨kP (V (i*2+0)),fO (V (i*2+1))⟩,(e8.slice (w:=2) (Q:=λj _ u=>u=V j) (λ_=>An) c (by decide) d λj _=>?_).imp λH u h=>?_⟩
  ·obtain⟨f,g⟩:=a (j/2) (by omega);have e:j=j/2*2+0∨j=j/2*2+1:=by omega
   rcases e with e | e<;>rw[e]
   ·exact f.lift
   ·exact g.lift
  ·simp only[rU,xf];refine fS.imp h (λ_ _ e=>e) λi cs c ⟨u,e,b⟩=>⟨⟨kP (V (i*2+0)),fO (V (i*2+1))⟩,by simp[c],?_⟩;obtain⟨c,d⟩:=a i (by omega);have a:=b 0 (by decide);have f:=b 1 (by decide);rw[e];show[u (i*2+0),u (i*2+1)]=_;rw[a,f];show[V (i*2+0),V (i*2+1)]=[.int .i64 (kP (V (i*2+0))),ak (fO (V (i*2+1)))];rw[<-c.int,<-d.st]
theorem AX.lift{v:Value}(h:AX W v):∃l:List a1,e8 O W v λH u=>fS H u l.length 5 λi cs=>∃c,l[i]? = some c/\cs=c.cells:=by
 rcases h with rfl | ⟨_,a,_,V,rfl,c,d,b⟩
 ·exact⟨[],e8.nil⟩
 ·refine⟨(List.range a).map λi=>⟨fO (V (i*5+0)),fO (V (i*5+1)),fO (V (i*5+2)),fO (V (i*5+3)),Bl (V (i*5+4))⟩,(e8.slice (w:=5) (Q:=λj _ u=>u=V j) (λ_=>An) c (by decide) d λj _=>?_).imp λH u h=>?_⟩
  ·obtain⟨f,g,h,i,k⟩:=b (j/5) (by omega);have e:j=j/5*5+0∨j=j/5*5+1∨j=j/5*5+2∨j=j/5*5+3∨j=j/5*5+4:=by omega
   rcases e with e | e | e | e | e<;>rw[e]
   ·exact f.lift
   ·exact g.lift
   ·exact h.lift
   ·exact i.lift
   ·exact k.lift
  ·simp only[rU,xf];refine fS.imp h (λ_ _ e=>e) λi cs c ⟨u,e,a⟩=>⟨⟨fO (V (i*5+0)),fO (V (i*5+1)),fO (V (i*5+2)),fO (V (i*5+3)),Bl (V (i*5+4))⟩,by simp[c],?_⟩;obtain⟨c,d,f,g,j⟩:=b i (by omega);rw[e];show[u (i*5+0),u (i*5+1),u (i*5+2),u (i*5+3),u (i*5+4)]=[ak (fO (V (i*5+0))),ak (fO (V (i*5+1))),ak (fO (V (i*5+2))),ak (fO (V (i*5+3))),.bool (Bl (V (i*5+4)))];rw[a 0 (by decide),a 1 (by decide),a 2 (by decide),a 3 (by decide),a 4 (by decide),<-c.st,<-d.st,<-f.st,<-g.st,<-j.bool]
theorem RowsIn.lift{v:Value}(h:RowsIn W v):∃l:List b9,e8 O W v λH u=>vy H u l:=by
 rcases h with rfl | ⟨c,k,d,V,rfl,m,n,f⟩
 ·exact⟨[],λγ H a=>⟨γ,H,_,a,.refl _,.refl _,.r1,none,0,rfl,bc _,λ_=>rfl,λc h=>by cases h⟩⟩
 ·have g:∀i,∃l:List dL,i<d->e8 O W (V (i*5+2)) λH u=>fS H u l.length 2 λi b=>∃c,l[i]? = some c/\b=c.cells:=λi=>by
   by_cases a:i<d
   ·obtain⟨l,h⟩:=(f i a).2.2.1.lift (O:=O);exact⟨l,λ_=>h⟩
   ·exact⟨[],λh=>absurd h a⟩
  obtain⟨a,l⟩:∃a:Nat->List dL,∀i,i<d->e8 O W (V (i*5+2)) λH u=>fS H u (a i).length 2 λd b=>∃c,(a i)[d]? = some c/\b=c.cells:=⟨λi=>(g i).choose,λi=>(g i).choose_spec⟩
  refine⟨(List.range k).map λi=>⟨fO (V (i*5+0)),kP (V (i*5+1)),a i,fO (V (i*5+3)),fO (V (i*5+4))⟩,
   (e8.slice (w:=5) (Q:=λj H u=>if j%5=2 then fS H u (a (j/5)).length 2 λd b=>∃c,(a (j/5))[d]? = some c/\b=c.cells else u=V j) (λj=>?_) m (by decide) n λj _=>?_).imp λH u h=>?_⟩
  ·by_cases e:j%5=2
   ·simp only[e,if_true];exact fS.vh
   ·simp only[e,if_false];exact An
  ·obtain⟨h,o,_,p,q⟩:=f (j/5) (by omega);have e:j=j/5*5+0∨j=j/5*5+1∨j=j/5*5+2∨j=j/5*5+3∨j=j/5*5+4:=by omega
   rcases e with e | e | e | e | e
   ·simp only[show ¬j%5=2 by omega,if_false];rw[e];exact h.lift
   ·simp only[show ¬j%5=2 by omega,if_false];rw[e];exact o.lift
   ·have:=l (j/5) (by omega);rw[<-e]at this;simp only[show j%5=2 by omega,if_true];exact this
   ·simp only[show ¬j%5=2 by omega,if_false];rw[e];exact p.lift
   ·simp only[show ¬j%5=2 by omega,if_false];rw[e];exact q.lift
  ·unfold vy;simp only[rU,xf];refine fS.imp h (λ_ _ e=>e) λi b c ⟨u,e,b⟩=>⟨⟨fO (V (i*5+0)),kP (V (i*5+1)),a i,fO (V (i*5+3)),fO (V (i*5+4))⟩,u (i*5+2),by simp[c],?_,?_⟩
   ·obtain⟨g,h,_,j,k⟩:=f i (by omega);have a:=b 0 (by decide);have c:=b 1 (by decide);have d:=b 3 (by decide);have f:=b 4 (by decide);rw[aw (by omega)]at a c d f;rw[e];show[u (i*5+0),u (i*5+1),u (i*5+2),u (i*5+3),u (i*5+4)]=[ak (fO (V (i*5+0))),.int .i64 (kP (V (i*5+1))),u (i*5+2),ak (fO (V (i*5+3))),ak (fO (V (i*5+4)))];rw[a,c,d,f,<-g.st,<-h.int,<-j.st,<-k.st]
   ·have a:=b 2 (by decide);rw[aL (by omega),show(i*5+2)/5=i by omega]at a;exact a
def A4(W:World)(v:Value):Prop:=∃a b,v=.agg #[a,b]/\AX W a/\RowsIn W b
def AU(W:World)(v:Value):Prop:=∃a b c d e,v=.agg #[a,b,c,d,e]/\oN a/\kQ b/\tV W c/\tV W d/\tV W e
theorem A4.lift{v:Value}(h:A4 W v):∃aa:ar,e8 O W v λH u=>sB H u aa:=by
 obtain⟨_,_,rfl,a,b⟩:=h;obtain⟨c,e⟩:=a.lift (O:=O);obtain⟨a,f⟩:=b.lift (O:=O);refine⟨⟨c,a⟩,λγ H b=>?_⟩;obtain⟨g,i,a,j,k,l,m,n⟩:=e γ H b;obtain⟨e,o,b,p,c,d,q,r⟩:=f g i j;exact⟨e,o,.agg #[a,b],p,k.trans c,l.trans d,.agg (.cons (m.mono c) (.cons q .nil)),a,b,rfl,fS.vh _ _ _ d n,r⟩
theorem AU.lift{v:Value}(h:AU W v):∃a:cW,e8 O W v λH u=>qU H u a:=by
 obtain⟨_,_,_,_,_,rfl,a,c,d,e,g⟩:=h;obtain⟨x,i⟩:=d.lift (O:=O);obtain⟨j,k⟩:=e.lift (O:=O);obtain⟨r,l⟩:=g.lift (O:=O);obtain⟨n,rfl⟩:=a;obtain⟨s,rfl⟩:=c;refine⟨⟨n,s.data.toList,x,j,r⟩,λγ H a=>?_⟩;obtain⟨g,j,c,m,o,p,q,t⟩:=i γ H a;obtain⟨i,r,d,u,e,f,v,w⟩:=k g j m;obtain⟨j,k,g,m,a,b,x,y⟩:=l i r u;exact⟨j,k,.agg #[.int .i64 n,.string s,c,d,g],m,(o.trans e).trans a,(p.trans f).trans b,.agg (.cons (.int _ _) (.cons (.str _) (.cons ((q.mono e).mono a) (.cons (v.mono a) (.cons x .nil))))),c,d,g,rfl,t.ext (f.trans b),w.ext b,y⟩
section
variable{vx:Type}{enc:TypeId×Value->vx}{base:Nat}{held:Bool}
theorem Av{t e l w:Nat}{v:Value}{x:DataW vx×List MemPlace}{E:(Nat->Value)->Prop}(o:P.underlying t=some (.slice e))(p:P.cellsOf e=w)(h:DataW.trod enc P W base (λ_=>true) held l t [v]=some x)
 (q:∀(V:Nat->Value) n y,DataW.trod enc P W base (λ_=>true) held n e ((List.range w).map V)=some y->E V):vG W w v E:=by
 rcases Deep.open_slice o h with⟨fr,_⟩ | ⟨a,len,cap,m,n,D,MS,fr,_,aY,_,hm,_,G8⟩
 ·exact .inl (by simpa using fr)
 ·have hm:m=cap:=by simpa using hm
  subst hm;rw[p]at G8;refine .inr ⟨a,len,m,λj=>(W.cell? (a.add j)).getD (.bool true),by simpa using fr,aY,?_⟩;have f:∀i,i<m->∃b,b.length=w/\(∀k,k<w->W.cell? (a.add (i*w+k))=b[k]?)/\DataW.trod enc P W base (λ_=>true) held n e b=some (D i,MS i):=λi c=>by
   obtain⟨b,a,e⟩:=G8 i c;obtain⟨_,g,h⟩:=World.cells?_some a;exact⟨b,g,λk a=>by rw[<-h k a,Deep.add_add],e⟩
  refine⟨λj d=>?_,λi c=>?_⟩
  ·have g:0<w:=qo λe=>by subst e;simp at d
   obtain⟨b,e,h,_⟩:=f (j/w) (ts (by rw[eZ];exact d));have d:=h (j%w) (o1 _ g);rw[show j/w*w+j%w=j by rw[eZ];exact xi j w]at d;rw[en (by rw[e];exact o1 _ g)]at d;show _=some ((W.cell? (a.add j)).getD _);rw[d];rfl
  ·obtain⟨b,_,b,a⟩:=f i c;refine q _ n (D i,MS i) ?_;rw[<-a];congr 1;apply n4;intro k;by_cases a:k<w
   ·rw[jd,tu a,<-b k a];have:=b k a;rw[en (by omega)]at this;rw[this];simp[this]
   ·rw[hc (by simpa using a),hc (by omega)]
theorem wx{t a:Nat}{u:Value}{y:DataW vx×List MemPlace}(b:P.underlying t=some (.int .i64))(h:DataW.trod enc P W base (λ_=>true) held a t [u]=some y):oN u:=by
 obtain⟨s,e,_⟩:=DataW.trod_int b h;exact⟨s,by simpa using e⟩
end
end
end Go.Dam.C
namespace Go.Dam.C
open Go Go.Dam
section
variable{O:cy}{W:World}
def uo(W:World)(v:Value):Prop:=vG W 1 v λV=>oN (V 0)
theorem uo.lift{v:Value}(h:uo W v):∃l,e8 O W v λH u=>pw H u l:=by
 rcases h with rfl | ⟨o,e,f,V,rfl,p,q,g⟩
 ·exact⟨[],λγ H a=>⟨γ,H,_,a,.refl _,.refl _,.r1,pw.nil⟩⟩
 ·refine⟨(List.range e).map λi=>kP (V i),(e8.slice (w:=1) (Q:=λj _ u=>u=V j) (λ_=>An) p (by decide) q λj _=>?_).imp λH u h=>?_⟩
  ·have:=g j (by omega);simp only[Nat.mul_one,Nat.add_zero]at this;exact this.lift
  ·obtain⟨k,f,rfl,_,r,s⟩:=h;refine⟨k,f,by simp,λi a=>?_⟩;have a:i<e:=by simpa using a
   cases k with
   | none=>have:=r rfl;omega
   | some o=>
     obtain⟨h,m,n,rfl,b,_,t⟩:=s _ rfl;obtain⟨_,v,u,rfl,f⟩:=t i a;have e:=f 0 (by decide);simp only[Nat.mul_one,Nat.add_zero]at e;have f:=(sX v).2;have c:=congrArg (λl=>l[0]?) f;simp[e]at c;have d:=g i (by omega);simp only[Nat.mul_one,Nat.add_zero]at d;exact b.elim (λb=>⟨h,m,_,n,V i,rfl,b,rfl,c.symm,kP (V i),by simp[a],d.int⟩) λb=>⟨h,m,_,n,V i,rfl,b,rfl,c.symm,kP (V i),by simp[a],d.int⟩
end
end Go.Dam.C
