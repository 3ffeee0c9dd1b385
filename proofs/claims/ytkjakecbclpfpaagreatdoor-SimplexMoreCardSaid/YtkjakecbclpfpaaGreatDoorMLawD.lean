/- What the functions of the program compute, for every input. -/
import Derived.Test.YtkjakecbclpfpaaGreatDoorMLawC
namespace Go.Dam.C
open Go Go.Dam
variable{X:aA}{pm:Perm}{H ab bX ai:ae}{n:Nat}
theorem eN.at{v:Value}{k n:Nat}(h:eN H v k n)(d:∀z c,v=.slice (some ⟨z,0,none⟩) k c->∀y,H.get z=some y->ab.get z=some y):eN ab v k n:=by
 obtain⟨b,a,rfl,c,e⟩:=h.row;exact⟨h.kS,b,a,rfl,c,e.imp id λ⟨b,y,e,c,f,g⟩=>⟨b,y,e,c,d b a (by rw[c]) y f,g⟩⟩
theorem FI(g:bl pm H){h:Option Addr}{k cap n d:Nat}(j:lW H h k n)(s:k<1000000):
 ∃z ab,(fz 1 (.slice h k cap) λnew m=>fj 1 8 (.slice (some ⟨H.next,0,none⟩) 1 1) new m).run pm (H.new (.cells [.int .i64 (d:Int)] (.n 1)))=some (.slice (some ⟨z,0,none⟩) (k+1) (k+1),ab)/\K pm H ab/\H.next<=z/\
  ab.get z=some (.cells (dZ (λi=>if i=0 then(d:Int) else rg n (i-1)) (k+1)) (.n 1)):=by
 have a:=K.new g (.cells [.int .i64 (d:Int)] (.n 1));have l:=a.h;have o:(H.new (.cells [.int .i64 (d:Int)] (.n 1))).get H.next=some (.cells [.int .i64 (d:Int)] (.n 1)):=cc;have p:∀k:Nat,dZ (λi=>if i=0 then(d:Int) else rg n (i-1)) (k+1)=.int .i64 (d:Int)::dZ (λi=>(rg n i:Int)) k:=λk=>by
  unfold dZ;rw[List.range_succ_eq_map,zQ,List.map_map];rfl
 by_cases c:k=0
 ·subst c;refine⟨H.next,_,?_,a,bc _,by rw[p];exact o⟩;unfold fz fj
  rcases j with⟨rfl,_⟩ | ⟨x,y,row,rfl,g1,g2,_⟩
  ·simp
  ·simp[a.some g g1,g2,bB]
 ·obtain⟨_,y,row,rfl,m,q,h⟩:=j.get c;have r:=Eu (f:=λi=>(rg n i:Int)) h (Fp (f:=λi=>.int .i64 (rg n i:Int)) h);obtain⟨b,e⟩:∃A,A=(H.new (.cells [.int .i64 (d:Int)] (.n 1))).put H.next .dead:=⟨_,rfl⟩;have h:K pm H b:=by rw[e];exact aC.put a (bc _) o (by simp) _
  have f:b.next=H.next+1:=by rw[e];rfl
  refine⟨b.next,b.new (.cells (.int .i64 (d:Int)::dZ (λi=>(rg n i:Int)) k) (.n 1)),?_,aC.new h (by omega) _,by omega,by rw[p];exact cc⟩;have b:pm.may H.next=true:=g.may (bc _);unfold fz;simp only[bf.run,a.some g m,q,Nat.mul_one,r];unfold fj;simp[EW,c, show(k+1)*8<=17179869184 by omega,show k<=17179869183 by omega,b,<-e,Nat.add_comm 1 k,l.make,l.pick,bB,]
section
variable{fB dv b ρ:Nat}{w r v0 v6 wC:Value}
theorem FR(m:NE X)(g:bl pm H)(n:eN H w fB b)(t:eN H r dv ρ)(j:fB<90000)(j:dv<900000)(b7:b<=ρ)(cH:ρ<b*10000){l:bn}{aD:List Fr}{R:cl}
 (j:Sub [(0,v0),(1,w),(6,v6),(7,r),(8,wC),(9,.int .i64 1),(10,.int .i64 10000)] l)
 (u:∀aU ab (low:Nat),Sub [(0,v0),(1,w),(6,v6),(7,r),(8,wC),(9,.int .i64 (low:Int))] aU->K pm H ab->1<=low->low<10000->b*low<=ρ->ρ<b*(low+1)->wp X pm (.code sO) aU ab aD R):
 wp X pm (.code uN) l H aD R:=by
 simp[-x4,-sO];refine fh.of (σ:=Nat×Nat) (λs=>[(0,v0),(1,w),(6,v6),(7,r),(8,wC),(9,.int .i64 (s.1:Int)),(10,.int .i64 (s.2:Int))]) (λs ab=>K pm H ab/\s.1<s.2/\1<=s.1/\s.2<=10000/\b*s.1<=ρ/\ρ<b*s.2) (λs=>s.2-s.1) (1,10000) (by simpa using j) ⟨K.refl g,by decide,by decide,by decide,by simpa using b7,cH⟩ ?_;rintro⟨low,c⟩ d ⟨e,j,f,o,h,i⟩;simp only at j f o h i|-;obtain⟨D,_⟩:∃D,D=c-low:=⟨_,rfl⟩;have p:wr .i64 ((c:Int)-(low:Int))=(D:Int):=by rw[cE];omega
 by_cases q:1<D
 ·obtain⟨S,_⟩:∃S,S=low+c:=⟨_,rfl⟩;obtain⟨a,_⟩:∃j,j=S/2:=⟨_,rfl⟩;have v:wr .i64 ((low:Int)+(c:Int))=(S:Int):=by rw[cE];omega
  have x:wr .i64 ((S:Int)/2)=(a:Int):=by rw[cE];omega
  have j:=e.h;have y:(d.new (.cells [.int .i64 (a:Int)] (.n 1))).get d.next=some (.cells [.int .i64 (a:Int)] (.n 1)):=cc;have l:=K.new j (.cells [.int .i64 (a:Int)] (.n 1));have s:=K.trans e l;simp[p,q,v,x,j.make,j.pick,fill,setCells,-yB];refine al.of (aq:=[w,.slice (some ⟨d.next,0,none⟩) 1 1]) (sN m l.h (n.ext (s.ext g)) (eN.one y (by omega) (by omega))) ?_;rintro j l ⟨v,x,d,_⟩;have y:x<=fB+1:=d.kS.le (by
   rw[eB];exact Nat.mul_lt_mul'' n.kS.1 (by omega))
  have k:=K.trans s v;simp[-yA];refine al.of (aq:=[j,r]) (uh m d (t.ext (k.ext g)) (by omega) (by omega)) ?_;rintro _ l ⟨rfl,rfl⟩;by_cases d:ρ<b*a
  ·simp[d];refine kt.of (low,a) ?_ (by simp) ⟨k,by show low<a;omega,f,by show a<=10000;omega,h,d⟩;show a-low<c-low;omega
  ·simp[d];refine kt.of (a,c) ?_ (by simp) ⟨k,by show a<c;omega,by show 1<=a;omega,o,by show b*a<=ρ;omega,i⟩;show c-a<c-low;omega
 ·have a:c=low+1:=by omega
  simp[p,q,-sO];refine u _ _ low ?_ e f (by omega) h (a▸i);simp
end
def FB(pm:Perm)(H:ae)(p c a b:Nat)(s:Nat×Value)(ab:ae):Prop:=K pm H ab/\p<ab.next/\s.1<=c/\∃f d,ab.get p=some (.cells (dZ f c) (.n 1))/\(∀j,j<s.1->f j=0)/\(∀j,j<c->0<=f j/\f j<10000)/\rs f c=((a/10000^s.1/b*10000^s.1:Nat):Int)/\eN ab s.2 d (a/10000^s.1%b)
theorem FT(k:NE X)(g:bl pm H){v w:Value}{e o a b:Nat}(R:eN H v e a)(q:eN H w o b)(aI:e<90000)(hb:o<90000)(S:0<b):
 Call X pm F.qh [v,w] H λr ab=>K pm H ab/\∃T U I k2,r=.tuple #[T,U]/\eN ab T I (a/b)/\eN ab U k2 (a%b):=by
 refine Call.W k.qh rfl λ_ hQ=>?_;have V:=R.kS;obtain⟨W,Y,rfl,_,h1⟩:=R.row;have J:=nO (pm:=pm) (H:=H) g.tock (Ut:=H) (z:=[.int .i64 0]) (bytes:=8) (c:=e);rw[vU]at J;obtain⟨p,L⟩:∃p,p=H.next:=⟨_,rfl⟩;obtain⟨x,y⟩:∃M,M=H.new (.cells (dZ (λ_=>0) e) (.n 1)):=⟨_,rfl⟩;have I:K pm H x:=by rw[y];exact K.new g _
 have R:x.get p=some (.cells (dZ (λ_=>0) e) (.n 1)):=by rw[y,L];exact cc
 have T:x.next=p+1:=by rw[y,L];rfl
 simp only[List.length_singleton,<-L,<-y]at J;have af:pm.may p=true:=g.may (by omega);have y:wr .i64 ((e:Int)-1)=(e:Int)-1:=cE;simp[y,J,-yh,-yi]
 refine fh.of (σ:=Nat×Value) (λs=>[(0,.slice W e Y),(1,w),(6,.slice (some ⟨p,0,none⟩) e e),(7,s.2),(8,.int .i64 ((s.1:Int)-1))])
  (FB pm H p e a b) (λs=>s.1) (e,.slice none 0 0) (by simp) ⟨I,by omega,bc _,_,0,R,λ_ _=>rfl,λ_ _=>by decide,?_,?_⟩ ?_
 ·show rs (λ_=>0) e=((a/10000^e/b*10000^e:Nat):Int);rw[u4 V.1,tQ (Nat.zero_le e) λ_ _ _=>rfl];simp[rs]
 ·show eN x (.slice none 0 0) 0 (a/10000^e%b);rw[u4 V.1,Nat.zero_mod];exact .nil
 rintro⟨s,r⟩ HA ⟨A,_,x,f,l,Z,B,O,C,t⟩;simp only at x B C t|-;have D:=A.h;have x:l<=o:=t.kS.le (Nat.lt_trans (o1 _ S) q.kS.1)
 cases s with
 | zero=>
   simp;refine al.of (aq:=[.slice (some ⟨p,0,none⟩) e e]) (sr k (N:=a/b) Z O (by simpa using C)) ?_;rintro u HA ⟨rfl,c,_,d⟩;simp;refine hQ _ _ _ ?_;simp;exact⟨A,u,r,⟨rfl,rfl⟩,⟨c,d⟩,l,by simpa using t⟩
 | succ j=>
   obtain⟨_,cr,rfl,_,ag⟩:=t.row;obtain⟨ah,ai,_,rfl,s,d2,d3⟩:=h1.get (by omega);have aj:=A.some g s;have r:j<e:=by omega
   have X:wr .i64 ((j:Int)-1)=(j:Int)-1:=cE;obtain⟨z,HB,e3,P,_,gB⟩:=FI D (cap:=cr) (d:=rg a j) ag (by omega);have E:=K.trans A P;have Q:=E.h;have pB:=P.some D Z;obtain⟨ρ,h⟩:∃s,s=a/10000^(j+1)%b:=⟨_,rfl⟩;rw[<-h]at gB;have s:=Fu (g:=λi=>(rg ρ i:Int)) (d:=(rg a j:Int)) l;have x:rs (λi=>if i=0 then(rg a j:Int) else rg ρ (i-1)) (l+1)=((rg a j+10000*ρ:Nat):Int):=by
    rw[s,C',n1 (by have:=t.kS.1;rwa [h])];simp
   have aa:=C6 a j;simp[r,aj,d2,d3 j r,D.make,D.pick,fill,setCells,e3,-fz,-yt,-ry];refine al.of (aq:=[.slice (some ⟨z,0,none⟩) (l+1) (l+1)]) (sr k (N:=rg a j+10000*ρ) gB (λi _=>?_) x) ?_
   ·have b:=@kf a j;have b:=@kf ρ (i-1);show 0<=(if i=0 then(rg a j:Int) else rg ρ (i-1))/\(if i=0 then(rg a j:Int) else rg ρ (i-1))<10000;split<;>omega
   rintro u HB ⟨rfl,F,ak,v⟩;have ab:=q.ext (E.ext g);have l:ρ<b:=by rw[h];exact o1 _ S
   have ad:rg a j+10000*ρ<b*10000:=by have:=@kf a j;omega
   have l:F<=o+1:=v.kS.le (by
    rw[eB];exact fK ad (fV _ (I5 q.kS.1)))
   simp[-yw,-ys,-ry];refine al.of (aq:=[u,w]) (uh k v ab (by omega) (by omega)) ?_;rintro _ HB ⟨rfl,rfl⟩;by_cases l:rg a j+10000*ρ<b
   ·obtain⟨c,d⟩:=FO aa (n:=b) (by rw[<-h];exact l);simp[l,X];refine kt.of (j,u) (qq j) (by simp) ⟨E,by have:=P.next;omega,by show j<=e;omega,f,F,pB,λi g=>B i (by have:i<j:=g;omega),O,?_,?_⟩
    ·show rs f e=((a/10000^j/b*10000^j:Nat):Int);rw[C,c,eB];congr 1;ac_rfl
    ·show eN _ u F (a/10000^j%b);rw[d,<-h];exact v
   ·simp[l,-uN,-ry];refine FR (v0:=.slice (some ⟨ah,0,none⟩) e Y) (v6:=.slice (some ⟨p,0,none⟩) e e) (wC:=.int .i64 (j:Int)) k Q ab v hb (by omega) (by omega) ad (by simp) ?_;intro _ s low l z W b2 b3 t;simp at l;obtain⟨l0,l1,l6,l7,l8,an⟩:=l;obtain⟨t1,t2⟩:=FN aa (n:=b) (low:=low) (by rw[<-h];exact b3) (by rw[<-h];exact t);have l:=z.h;have pC:=z.some Q pB;have ao:=K.trans E z;have ar:setCells (dZ f e) j [.int .i64 (low:Int)]=some (dZ (cS f j low) e):=l9 r;obtain⟨m,G⟩:∃M,M=s.put p (.cells (dZ (cS f j low) e) (.n 1)):=⟨_,rfl⟩;have N:K pm H m:=by rw[G];exact aC.put ao (by omega) pC (by simp) _
    have d:=N.h;have pD:m.get p=some (.cells (dZ (cS f j low) e) (.n 1)):=by rw[G];exact bO
    have au:eN m u F (rg a j+10000*ρ):=(v.ext (z.ext Q)).at λ_ c n ai hy=>by
     rw[ak]at n;cases n;rw[G,a6];exact hy
    have p:=q.ext (N.ext g);have s:(m.new (.cells [.int .i64 (low:Int)] (.n 1))).get m.next=some (.cells [.int .i64 (low:Int)] (.n 1)):=cc;have l:=K.new d (.cells [.int .i64 (low:Int)] (.n 1));have t:setCells [.int .i64 0] 0 [.int .i64 (low:Int)]=some [.int .i64 (low:Int)]:=rfl;simp[l1,l6,l7,l8,an,r,pC,ar,af,<-G,d.make,d.pick,fill,t,-setCells_one,-yz,-ry];refine al.of (a':=by simp) (aI:=by simp) (aq:=[w,.slice (some ⟨m.next,0,none⟩) 1 1]) (sN k l.h (p.ext (l.ext d)) (eN.one s (by omega) (by omega))) ?_;rintro t _ ⟨m,v,p,_⟩;have s:=K.trans l m;have l:v<=o+1:=p.kS.le (by
     rw[eB];exact Nat.mul_lt_mul'' q.kS.1 b2)
    simp[-yy,-ry];refine al.of (a':=by simp) (aI:=by simp) (aq:=[u,t]) (w2 k m.h (au.ext (s.ext d)) p (by omega) (by omega) b3) ?_;rintro u' _ ⟨l,ae,av,_⟩;have k:=K.trans s l;simp[  l8,X];refine kt.of (j,u') (qq j) (by simp[l0,l1,l6]) ⟨K.trans N k,?_,by show j<=e;omega,cS f j low,ae,k.some d pD,λi H=>?_,λi H=>?_,?_,?_⟩
    ·have:=d.lt pD;have:=k.next;omega
    ·have H:i<j:=H;rw[eP (by omega)];exact B i (by omega)
    ·by_cases n:i=j
     ·subst n;rw[iX];omega
     ·rw[eP n];exact O i H
    ·show rs (cS f j low) e=((a/10000^j/b*10000^j:Nat):Int);rw[mg r,C,t1,B j (by omega),eB,rP];simp;grind
    ·show eN _ u' ae (a/10000^j%b);rw[t2,<-h];exact av
theorem FU(l:NE X)(g:bl pm H){v w:Value}{f h a b:Nat}(x:eN H v f a)(y:eN H w h b)(aI:f<90000)(z:h<90000):Call X pm F.nE [v,w] H λr ab=>K pm H ab/\∃k,eN ab r k (Nat.gcd a b):=by
 refine Call.W l.nE rfl λ_ A=>?_;simp[-yC,-yD];refine fh.of (σ:=(Value×Value)×(Nat×Nat)) (λs=>[(0,s.1.1),(1,s.1.2)]) (λs ab=>K pm H ab/\(∃k,k<90000/\eN ab s.1.1 k s.2.1)/\(∃k,k<90000/\eN ab s.1.2 k s.2.2)/\Nat.gcd s.2.1 s.2.2=Nat.gcd a b) (λs=>s.2.2) ((v,w),(a,b)) (by simp) ⟨K.refl g,⟨f,aI,x⟩,⟨h,z,y⟩,rfl⟩ ?_;rintro⟨⟨B,_⟩,⟨m,n⟩⟩ _ ⟨i,⟨C,D,j⟩,⟨d,o,c⟩,e⟩;simp only at j c e|-;have p:=i.h;obtain⟨q,r,rfl,_,_⟩:=c.row;by_cases t:d=0
 ·subst t;obtain rfl:n=0:=c.kS.ny.1 rfl;simp;refine A _ _ _ ?_;simp;rw[Nat.gcd_zero_right]at e;exact⟨i,C,e▸j⟩
 ·have g:0<n:=qo λf=>t (c.kS.ny.2 f);simp[show 0<d by omega,-yE];refine al.of (aq:=[B,.slice q d r]) (FT l p j c D o g) ?_;rintro _ _ ⟨k,_,v,_,u,rfl,_,f⟩;have h:u<=d:=f.kS.le (Nat.lt_trans (o1 _ g) c.kS.1);simp;refine kt.of ((.slice q d r,v),(n,m%n)) ?_ (by simp) ⟨K.trans i k,⟨d,o,c.ext (k.ext p)⟩,⟨u,by omega,f⟩,?_⟩
  ·exact o1 _ g
  ·show Nat.gcd n (m%n)=Nat.gcd a b;rw[<-e,ql m n,Nat.gcd_rec n m,ql]
structure nD(X:aA):Prop extends NE X where
 mO:Has X F.mO C.mO
 q3:Has X F.q3 C.q3
 qR:Has X F.qR C.qR
 q1:Has X F.q1 C.q1
 q2:Has X F.q2 C.q2
 pw:Has X F.pw C.pw
 pa:Has X F.pa C.pa
structure mN(H:ae)(v:Value)(k:Nat)(neg:Bool)(n d:Nat):Prop where
 ex:∃Fz Fy E2 EX,v=.agg #[.bool neg,Fz,Fy]/\eN H Fz E2 n/\eN H Fy EX d/\E2<=k/\EX<=k
 d:0<d
 s:neg=true->0<n
theorem mN.ext{v:Value}{k n d:Nat}{neg:Bool}(h:mN H v k neg n d)(e:Ext H ab):mN ab v k neg n d:=by
 obtain⟨a,b,c,d,rfl,f,g,i,j⟩:=h.ex;exact⟨⟨a,b,c,d,rfl,f.ext e,g.ext e,i,j⟩,h.d,h.s⟩
theorem sM(y:nD X)(g:bl pm H){f h:Value}{b n:Nat}{neg:Bool}(m:eN H f b n){w c:Nat}{i:Option Addr}(z:h=.slice i w c):
 Call X pm F.mO [.bool neg,f,h] H λr ab=>K pm H ab/\r=.agg #[.bool (neg&&!decide (n=0)),f,h]:=by
 refine Call.W y.mO rfl λ_ o=>?_;subst z;have f:=m.kS.ny;obtain⟨q,s,rfl,_,_⟩:=m.row;obtain⟨p,j⟩:∃p,p=H.next:=⟨_,rfl⟩;have t:pm.may p=true:=g.may (by omega);have u:(neg&&decide (0<b))=(neg&&!decide (n=0)):=by
  congr 1;rw[<-decide_not];exact decide_eq_decide.2 (by omega)
 obtain⟨k,d⟩:∃A,A=H.new (.cells [.bool false,.slice none 0 0,.slice none 0 0] (.t T.uT)):=⟨_,rfl⟩;have B:K pm H k:=by rw[d];exact K.new g _
 have l:k.get p=some (.cells [.bool false,.slice none 0 0,.slice none 0 0] (.t T.uT)):=by rw[d,j];exact cc
 obtain⟨v,a⟩:∃A,A=k.put p (.cells [.bool (neg&&!decide (n=0)),.slice q b s,.slice i w c] (.t T.uT)):=⟨_,rfl⟩;have x:K pm H v:=by rw[a];exact aC.put B (by omega) l (by simp) _
 have e:v.get p=some (.cells [.bool (neg&&!decide (n=0)),.slice q b s,.slice i w c] (.t T.uT)):=by rw[a];exact bO
 cases neg
 ·simp at a e;simp[g.make,g.pick,ptr,<-j,<-d,aR,l,fill,setCells,t,<-a];refine o _ _ _ ?_;simp[ft,e,bB,bA];exact x
 ·simp at u a e;simp[g.make,g.pick,ptr,<-j,<-d,aR,l,fill,setCells,t,u,<-a];refine o _ _ _ ?_;simp[ft,e,bB,bA];exact x
theorem FK(c:UInt8)(t:List UInt8):dV (c::t)=(c.toNat-48)*10^t.length+dV t:=by
 have:=Gt [c] t;simpa [dV,oD]using this
theorem FL{l:List UInt8}{j:Nat}(h:j<l.length):dV (l.drop j)=(l[j].toNat-48)*10^(l.length-(j+1))+dV (l.drop (j+1)):=by
 rw[List.drop_eq_getElem_cons h,FK];simp
def D3(pm:Perm)(ai:ae)(l:List UInt8)(s:Nat×Value×Nat×Nat)(H:ae):Prop:=
 K pm ai H/\s.1<=l.length/\∃q f o,pF H s.2.1 1 q (dZ f q) o/\(∀c,o=some c->ai.next<=c/\pm.may c=true)/\(∀j,j<q->0<=f j/\f j<10000)/\rs f q+(s.2.2.2:Int)*10000^q=(dV (l.drop s.1):Int)/\q<=l.length/\
   (s.1=0->s.2.2.2=0/\q≠0)/\(s.1≠0->∃e,l.length-s.1=4*q+e/\e<4/\s.2.2.1=10^e/\s.2.2.2<10^e)
theorem D9(P:nD X)(g:bl pm H){l:List UInt8}(w:ie l=true):Call X pm F.pw [ak l] H λr ab=>K pm H ab/\∃b k c,r=.tuple #[.slice (some ⟨b,0,none⟩) k c,.bool true]/\H.next<=b/\eN ab (.slice (some ⟨b,0,none⟩) k c) k (dV l):=by
 refine Call.W P.pw rfl λae hQ=>?_;unfold ie at w;simp[cJ]at w;obtain⟨y,Q,R,L⟩:=w;have af:∀j (o:j<l.length),48<=l[j].toNat/\l[j].toNat<=57:=λj o=>by
  have:=L _ (tn o);simpa [gL,cJ]using this
 have w:0<l.length:=by
  cases l with
  | nil=>exact absurd rfl y
  | cons=>simp
 have w0:wr .i64 ((l.length:Int)-1)=(l.length:Int)-1:=cE;have S:∀L:bn,aF 0 L=some (ak l)->wp X pm (.code s4) L H [] ae:=by
  intro L w;simp[w,w0,-yF,-yG]
  refine fh.of (σ:=Nat×Value×Nat×Nat) (λs=>[(0,ak l),(4,s.2.1),(5,.int .i64 (s.2.2.1:Int)),(6,.int .i64 (s.2.2.2:Int)),(7,.int .i64 ((s.1:Int)-1))]) (D3 pm H l) (λs=>s.1) (l.length,.slice none 0 0,1,0) (by simp[w])
   ⟨K.refl g,bc _,0,λ_=>0,none,⟨rfl,rfl,rfl⟩,by simp,by simp,by simp[rs,dV,oD],Nat.zero_le _,λe=>absurd e (by show l.length≠0;omega),λ_=>⟨0,by simp,by decide,rfl,by show 0<10^0;simp⟩⟩ ?_
  rintro⟨s,T,W,U⟩ a ⟨b,w,q,f,V,i,z,A,B,hq,X,Y⟩;simp only at w i B X Y|-
  cases s with
  | zero=>
    obtain⟨rfl,d⟩:=X rfl
    cases V with
    | none=>exact absurd i.1 d
    | some c=>
      obtain⟨rfl,_,d⟩:=i;simp;refine al.of (aq:=[.slice (some ⟨c,0,none⟩) q q]) (sr P.toNE (N:=dV l) d A (by simpa using B)) ?_;rintro _ a ⟨rfl,k,rfl,e⟩;simp;refine hQ _ _ _ ?_;simp;exact⟨b,c,k,q,⟨rfl,rfl,rfl⟩,(z c rfl).1,e⟩
  | succ j=>
    obtain⟨e,Z,_,p,e4⟩:=Y (Nat.succ_ne_zero j);have k:j<l.length:=by omega
    obtain⟨_,_⟩:=af j k;obtain⟨x,hx⟩:∃x,x=l[j].toNat-48:=⟨_,rfl⟩;have C:=FL k;rw[<-hx]at C;have s:10^e<=1000:=by
     have:10^e<=10^3:=hX (by decide) (by omega);simpa using this
    rw[<-p]at e4 s;have s:10^(l.length-(j+1))=W*10000^q:=by
     rw[Z,Nat.add_comm,hG,qm,p]
    rw[s]at C;obtain⟨D,hD⟩:∃D,D=U+x*W:=⟨_,rfl⟩;have s:x*W<=9*W:=fV _ (by omega);have s:D<W*10:=by omega
    have E:wr .u8 ((l[j].toNat:Int)-48)=(x:Int):=by
     rw[r7];simp[IntKind.wrap,IntKind.bits,IntKind.signed];omega
    have F:wr .i64 (x:Int)=(x:Int):=cE;have s:((x*W:Nat):Int)=(x:Int)*(W:Int):=by simp
    have G:wr .i64 ((x:Int)*(W:Int))=((x*W:Nat):Int):=by rw[cE,s]
    have r:wr .i64 ((U:Int)+((x*W:Nat):Int))=(D:Int):=by rw[cE];omega
    have u:wr .i64 ((W:Int)*10)=((W*10:Nat):Int):=by rw[cE];simp
    have I:wr .i64 ((j:Int)-1)=(j:Int)-1:=cE;have aa:rs f q+(D:Int)*10000^q=(dV (l.drop j):Int):=by
     rw[C,hD];simp only[Int.natCast_add,zW,Int.natCast_pow,Int.cast_ofNat_Int];rw[<-B];grind
    have d:=b.h;have w:wr .i64 ((W:Int)*10)=((W*10:Nat):Int):=u;rw[s]at r;have J:¬l[j].toNat<48:=by omega
    have M:¬57<l[j].toNat:=by omega
    have ab:((W:Int)*10==10000)=decide (W=1000):=by
     rw[Bool.eq_iff_iff];simp;omega
    have ad:W=1000∨j=0->∃h,(fj 1 8 T [.int .i64 (D:Int)] 1).run pm (a.new (.cells [.int .i64 (D:Int)] (.n 1)))=some (.slice (some ⟨a.next+1,0,none⟩) (q+1) (q+1),h)/\D3 pm H l (j,.slice (some ⟨a.next+1,0,none⟩) (q+1) (q+1),1,0) h:=by
     intro v;obtain⟨h,a1,a2,a3,_,_⟩:=E6 (K.new d (.cells [.int .i64 (D:Int)] (.n 1))).h (cR:=8) (n:=H.next) (i.ext λc _ _ o=>(K.new d _).some d o) (xs:=[.int .i64 (D:Int)]) rfl rfl (bc _) (by omega) (by omega) (by have:=b.next;show H.next<=a.next+1;omega) z;have o:K pm H h:=aC.trans (aC.new b b.next _) a3;have s:dZ f q++[.int .i64 (D:Int)]=dZ (cS f q D) (q+1):=by
      rw[Gj,iX,Bs (f:=cS f q D) (g:=f) λN w=>eP (by omega)]
     rw[s]at a2;refine⟨h,a1,o,by show j<=l.length;omega,q+1,cS f q D,_,a2,λc e=>?_,λN w=>?_,?_,?_,λ_=>⟨rfl,Nat.succ_ne_zero q⟩,λO=>⟨0,?_,by decide,rfl,by show 0<10^0;simp⟩⟩
     ·cases e;have:=b.next;exact⟨by show H.next<=a.next+1;omega,g.may (by show H.next<=a.next+1;omega)⟩
     ·by_cases e:N=q
      ·subst e;rw[iX];omega
      ·rw[eP e];exact A N (by omega)
     ·show rs (cS f q D) (q+1)+((0:Nat):Int)*10000^(q+1)=(dV (l.drop j):Int);rw[rs,Fs (bc _),iX,aa];simp
     ·have:4*q+e=l.length-(j+1):=Z.symm;show q+1<=l.length;omega
     ·show l.length-j=4*(q+1)+0;have R:e=3:=by
       have O:j≠0:=O;have m:W=1000:=v.resolve_right O;apply o3;intro _;have:10^e<=10^2:=hX (by decide) (by omega);have Q:(10:Nat)^2=100:=rfl;omega
      omega
    have o:((j:Int)==0)=decide (j=0):=by
     rw[Bool.eq_iff_iff];simp
    by_cases m:W=1000
    ·obtain⟨h,c,f⟩:=ad (.inl m);have g:((W:Int)*10==10000)=true:=by rw[ab];exact hd m
     simp[k,J,M,E,F,G,r,u,g,d.make,d.pick,fill,setCells,c,I,aR];refine kt.of (j,.slice (some ⟨a.next+1,0,none⟩) (q+1) (q+1),1,0) (qq j) ?_ f;simp
    ·have g:((W:Int)*10==10000)=false:=by rw[ab];exact j1 m
     by_cases c:j=0
     ·obtain⟨h,f,h⟩:=ad (.inr c);have l:((j:Int)==0)=true:=by rw[o];exact hd c
      simp[k,J,M,E,F,G,r,u,g,l,d.make,d.pick,fill,setCells,f,I];refine kt.of (j,.slice (some ⟨a.next+1,0,none⟩) (q+1) (q+1),1,0) (qq j) ?_ h;simp
     ·have a:((j:Int)==0)=false:=by rw[o];exact j1 c
      have d:W*10=10^(e+1):=by rw[eB,p]
      simp[k,J,M,E,F,G,r,u,g,a,I];refine kt.of (j,T,W*10,D) (qq j) ?_ ⟨b,by show j<=l.length;omega,q,f,V,i,z,A,aa,hq,λe=>absurd e c,λ_=>⟨e+1,?_,?_,d,by show D<10^(e+1);omega⟩⟩
      ·simp
      ·show l.length-j=4*q+(e+1);omega
      ·apply o3;intro _;obtain rfl:e=3:=by omega
       exact m p
 have b:(l==[])=false:=by simpa using y
 obtain⟨c,t,rfl⟩:∃c t,l=c::t:=by
  cases l with
  | nil=>exact absurd rfl y
  | cons c t=>exact⟨c,t,rfl⟩
 by_cases v:c=48
 ·subst v;have a:t=[]:=by
   cases t with
   | nil=>rfl
   | cons=>simp at R
  subst a;simp[eM, -s4];exact S _ (by simp)
 ·have a:¬c.toNat=48:=λe=>v (zT.1 e);have b:¬(2000:Int)<(t.length:Int)+1:=by simp at Q;omega
  have d:((c.toNat:Int)==48)=false:=by
   rw[lz];simpa using a
  simp[eM,b,d,aR,-s4];exact S _ (by simp)
theorem FM{n j:Nat}(h:j<(Lib.decDigits n).length):48<=((Lib.decDigits n)[j]).toNat/\((Lib.decDigits n)[j]).toNat<=57:=by
 have a:=Gv n;rw[eA]at a;have:=a _ (tn h);simpa [gL,cJ]using this
theorem Ht(k:Nat):bS (4*k)=10000^k:=(fQ _).trans (qm 10 4 k)
theorem eN.len{u:Value}{k n:Nat}(h:eN H u k n)(a:n<bS 2000):k<=500:=h.kS.le (by rw[<-Ht 500];exact a)
abbrev p'(neg:Bool)(a b c d e f:Nat):List Value:=[.bool neg,.slice (some ⟨a,0,none⟩) b c,.slice (some ⟨d,0,none⟩) e f]
theorem El(A:nD X){p r e f g i:Nat}{Q:cl}{neg aK:Bool}{b a n d m:Nat}{hU:List UInt8}(L:bl pm ai)(B:K pm ai H)(C:ai.next<=r){z:cM}(j:H.get p=some (.cells (p' neg e b f g a i) z))(P:H.get r=some (.cells [.bool false,.slice none 0 0,.slice none 0 0] (.t T.px)))
 (v:eN H (.slice (some ⟨e,0,none⟩) b f) b n) (s:eN H (.slice (some ⟨g,0,none⟩) a i) a d) (U:b<=501) (U:a<=501) (R:e≠r) (S:g≠r)
 (U:m=hU.length∨m<hU.length/\d≠1) (a':Nat.gcd n d=1) (U:aK=true->n≠0) {l:bn} (cH:aF 2 l=some (.pointer (some ⟨r,0,none⟩))) (D:aF 4 l=some (ak hU)) (k:aF 5 l=some (.bool aK)) (E:aF 6 l=some (.int .i64 (m:Int))) (w:aF 7 l=some (.slice (some ⟨e,0,none⟩) b f)) (o:aF 8 l=some (.bool true)) (c:aF 9 l=some (.pointer (some ⟨p,0,none⟩)))
 (V:∀aU ab,aF 2 aU=some (.pointer (some ⟨r,0,none⟩))->aF 3 aU=some (.bool true)->K pm ai ab->eN ab (.slice (some ⟨e,0,none⟩) b f) b n->eN ab (.slice (some ⟨g,0,none⟩) a i) a d->ab.get r=some (.cells (p' neg e b f g a i) (.t T.px))->Q .ret aU ab):
 wp X pm (.code sn) l H [] Q:=by
 have t:=B.h;have W:pm.may r=true:=L.may C;have x:aK=true->((b:Int)==0)=false:=λy=>by
  have:=U y;have h:=v.kS.ny;rw[lz];simp;omega
 have q:∀L:bn,aF 2 L=some (.pointer (some ⟨r,0,none⟩))->aF 9 L=some (.pointer (some ⟨p,0,none⟩))->aF 96 L=some (.bool false)->aF 98 L=some (.slice (some ⟨e,0,none⟩) b f)->aF 100 L=some (.slice (some ⟨g,0,none⟩) a i)->
  al X pm ⟨some 101,some (96,false),.call F.nE [.t 98,.t 100]⟩ F.nE [.t 98,.t 100] pN L H [.seq ov,.seq od] Q:=by
  intro L G Y d L U;refine al.of (a':=by simp[d]) (aI:=by simp[L,U]) (aq:=[.slice (some ⟨e,0,none⟩) b f,.slice (some ⟨g,0,none⟩) a i]) (FU A.toNE t v s (by omega) (by omega)) ?_;rintro Z l ⟨I,L,u⟩;rw[a']at u;have m:=I.h;have J:=K.new m (.cells [.int .i64 1] (.n 1));have gL:(l.new (.cells [.int .i64 ((1:Nat):Int)] (.n 1))).get l.next=some (.cells [.int .i64 ((1:Nat):Int)] (.n 1)):=cc;have U:L=1:=((u.kS.one).2 rfl).1;simp[d,m.make,m.pick,fill,setCells,-zz,-ov,-od];refine al.of (a':=by simp[d]) (aq:=[Z,.slice (some ⟨l.next,0,none⟩) 1 1]) (uh A.toNE (u.ext (J.ext m)) (eN.one gL (by decide) (by decide)) (by omega) (by decide)) ?_;rintro _ _ ⟨rfl,rfl⟩;have n:=K.trans I J;have aa:=n.some t j;have M:=n.some t P;have c0:oW 1 1=0:=rfl;obtain⟨z,p⟩:∃A,A=(l.new (.cells [.int .i64 1] (.n 1))).put r (.cells (p' neg e b f g a i) (.t T.px)):=⟨_,rfl⟩;have kE:K pm ai z:=by rw[p];exact aC.put (K.trans B n) C M (by simp) _
  have gE:z.get r=some (.cells (p' neg e b f g a i) (.t T.px)):=by rw[p];exact bO
  have N:∀{e b f g},e≠r->eN H (.slice (some ⟨e,0,none⟩) b f) b g->eN z (.slice (some ⟨e,0,none⟩) b f) b g:=λhb h=>(h.ext (n.ext t)).at λ_ _ y _ hy=>by
   cases y;rw[p,a6 (h:=hb)];exact hy
  simp[d,G,Y,c0,aa,M,bB,bA,setCells,W,<-p];exact V _ _ (by simp[G]) (by simp) kE (N R v) (N S s) gE
 by_cases O:a=1
 ·have l:((a:Int)==1)=true:=by simpa using O
  obtain⟨_,_,z,_,G⟩:=s.row;cases z;obtain⟨_,_,_,z,n,p,H⟩:=G.get (by omega);cases z;have r:=H 0 (by omega);have u:0<a:=by omega
  by_cases F:d=1
  ·have h:((rg d 0:Int)==1)=true:=by subst F;rfl
   have d:¬m<hU.length:=by omega
   cases aK
   ·simp[D,k,E, o,c,j,l,u,n,p,r,h,d,aR,-pN,-ov,-od];exact q _ (by simp[cH]) (by simp[c]) (by simp) (by simp) (by simp)
   ·simp[D,k,E,w,o,c,j,l,u,n,p,r,h,d, x rfl,-pN,-ov,-od];exact q _ (by simp[cH]) (by simp[c]) (by simp) (by simp) (by simp)
  ·have m:((rg d 0:Int)==1)=false:=by
    rw[lz];intro h;have h:(rg d 0:Int)=1:=by simpa using h
    exact F ((s.kS.one).1 ⟨O,by omega⟩)
   cases aK
   ·simp[ k,  o,c,j,l,u,n,p,r,m,aR,-pN,-ov,-od];exact q _ (by simp[cH]) (by simp[c]) (by simp) (by simp) (by simp)
   ·simp[ k, w,o,c,j,l,u,n,p,r,m,aR,x rfl,-pN,-ov,-od];exact q _ (by simp[cH]) (by simp[c]) (by simp) (by simp) (by simp)
 ·have d:((a:Int)==1)=false:=by
   rw[lz];simp;omega
  cases aK
  ·simp[ k,  o,c,j,d,aR,-pN,-ov,-od];exact q _ (by simp[cH]) (by simp[c]) (by simp) (by simp) (by simp)
  ·simp[ k, w,o,c,j,d,aR,x rfl,-pN,-ov,-od];exact q _ (by simp[cH]) (by simp[c]) (by simp) (by simp) (by simp)
theorem Em(z:nD X)(g:bl pm H){q:Rat}(b7:q.num.natAbs<bS 2000)(cH:q.den<bS 2000):Call X pm F.pa [ak (bk q)] H λr ab=>K pm H ab/\∃u,r=.tuple #[u,.bool true]/\mN ab u 501 (decide (q<0)) q.num.natAbs q.den:=by
 refine Call.W z.pa rfl λaf hQ=>?_;obtain⟨a,I⟩:∃D,D=Lib.decDigits q.num.natAbs:=⟨_,rfl⟩;obtain⟨B,C⟩:∃D,D=if q.den=1 then[] else 47::Lib.decDigits q.den:=⟨_,rfl⟩
 obtain⟨hU,b⟩:∃D,D=a++B:=⟨_,rfl⟩;have av:bk q=(if q<0 then[45] else[])++hU:=by rw[b,I,C];rfl
 have U:q<0->q.num.natAbs≠0:=λh=>by
  have:=(zn q).1 h;omega
 have ax:a≠[]:=by rw[I];exact yS _
 have ay:∀L (h:L<a.length),48<=a[L].toNat/\a[L].toNat<=57:=by
  subst I;exact λL h=>FM h
 have ag:0<a.length:=rT.2 ax;have V:ie a=true:=by rw[I];exact Pc b7
 have D:a.length<=2000:=by
  unfold ie at V;simp[cJ]at V;exact V.2.1
 have W:=Pc cH;have D:(Lib.decDigits q.den).length<=2000:=by
  unfold ie at W;simp[cJ]at W;exact W.2.1
 have D:hU.length<=4001:=by
  rw[b,o4,C];split
  ·simp;omega
  ·simp;omega
 obtain⟨r,Y⟩:∃r,r=H.next:=⟨_,rfl⟩;obtain⟨c,J⟩:∃A,A=H.new (.cells [.bool false,.slice none 0 0,.slice none 0 0] (.t T.px)):=⟨_,rfl⟩;have k1:K pm H c:=by rw[J];exact K.new g _
 have l:=k1.h;have aM:c.get r=some (.cells [.bool false,.slice none 0 0,.slice none 0 0] (.t T.px)):=by rw[J,Y];exact cc
 have D:c.next=r+1:=by rw[J,Y];rfl
 have kU:K pm c (c.up 10):=(K.refl l).up 10;have ah:∀L:bn,aF 2 L=some (.pointer (some ⟨r,0,none⟩))->aF 4 L=some (ak hU)->aF 5 L=some (.bool (decide (q<0)))->wp X pm (.code te) L (c.up 10) [] af:=by
  intro L D L l5;have gU:=kU.h;simp[-yU,-rI];refine fh.of (σ:=Nat) (λk=>[(2,.pointer (some ⟨r,0,none⟩)),(4,ak hU),(5,.bool (decide (q<0))),(6,.int .i64 (k:Int))]) (λk ab=>ab=c.up 10/\k<=a.length) (λk=>a.length-k) 0 (by simp[D,L,l5]) ⟨rfl,Nat.zero_le _⟩ ?_;rintro k _ ⟨az,_⟩;by_cases ai:k<a.length
  ·have d:k<hU.length:=by rw[b,o4];omega
   have e:hU[k]=a[k]:=by
    subst b;exact List.getElem_append_left ai
   have f:((hU[k].toNat:Int)==47)=false:=by
    rw[lz,e];have:=ay k ai;simp;omega
   have e:wr .i64 ((k:Int)+1)=((k+1:Nat):Int):=by rw[cE];simp
   simp[d,f,e,-rI];refine kt.of (k+1) ?_ (by simp) ⟨az,ai⟩;show a.length-(k+1)<a.length-k;omega
  ·obtain rfl:k=a.length:=by omega
   subst az;have L:hU.take a.length=a:=by rw[b];simp
   have aA:∀D:bn,aF 2 D=some (.pointer (some ⟨r,0,none⟩))->aF 4 D=some (ak hU)->aF 5 D=some (.bool (decide (q<0)))->aF 6 D=some (.int .i64 (a.length:Int))->wp X pm (.code rI) D (c.up 10) [] af:=by
    intro D m2 M m5 N;have D:a.length<=hU.length:=by rw[b,o4];omega
    simp[M,N,D,L,-zy,-yV];refine al.of (aq:=[ak a]) (D9 z gU V) ?_;rintro _ d ⟨E,e,i,s,rfl,_,hn⟩;rw[I,Gu]at hn;have X:=E.h;have D:=hn.len b7;have gL:(d.new (.cells [.int .i64 ((1:Nat):Int)] (.n 1))).get d.next=some (.cells [.int .i64 ((1:Nat):Int)] (.n 1)):=cc;have t:=K.new X (.cells [.int .i64 ((1:Nat):Int)] (.n 1));obtain⟨H3,aB⟩:∃A,A=d.new (.cells [.int .i64 1] (.n 1)):=⟨_,rfl⟩;have D:d.new (.cells [.int .i64 ((1:Nat):Int)] (.n 1))=H3:=aB.symm;rw[D]at gL t;have Z:=t.h;have aN:eN H3 (.slice (some ⟨d.next,0,none⟩) 1 1) 1 1:=eN.one gL (by decide) (by decide);have aj:=hn.ext (t.ext X);simp[m5,X.make,X.pick,fill,setCells,<-aB,-zX,-zo];refine al.of (aq:=[.bool (decide (q<0)),.slice (some ⟨e,0,none⟩) i s,.slice (some ⟨d.next,0,none⟩) 1 1]) (sM z Z aj rfl) ?_;rintro _ H4 ⟨n,rfl⟩;have D:(decide (q<0)&&!decide (q.num.natAbs=0))=decide (q<0):=by
     by_cases h:q<0
     ·simp only[hd h,Bool.true_and,j1 (U h),Bool.not_false]
     ·simp only[j1 h,Bool.false_and]
    rw[D];have u:=n.h;obtain⟨p,hp⟩:∃p,p=H4.next:=⟨_,rfl⟩;obtain⟨H5,aa⟩:∃A,A=H4.new (.cells [.bool false,.slice none 0 0,.slice none 0 0] (.t T.sl)):=⟨_,rfl⟩;have k5:K pm H4 H5:=by rw[aa];exact K.new u _
    have an:H5.get p=some (.cells [.bool false,.slice none 0 0,.slice none 0 0] (.t T.sl)):=by rw[aa,hp];exact cc
    obtain⟨F,ad⟩:∃A,A=H5.put p (.cells (p' (decide (q<0)) e i s d.next 1 1) (.t T.sl)):=⟨_,rfl⟩;have O:K pm H4 F:=by rw[ad];exact aC.put k5 (by omega) an (by simp) _
    have ao:F.get p=some (.cells (p' (decide (q<0)) e i s d.next 1 1) (.t T.sl)):=by rw[ad];exact bO
    have ar:pm.may p=true:=u.may (by omega);have aD:K pm H F:=K.trans k1 (K.trans kU (K.trans E (K.trans t (K.trans n O))));have aE:F.get r=some (.cells [.bool false,.slice none 0 0,.slice none 0 0] (.t T.px)):=(K.trans kU (K.trans E (K.trans t (K.trans n O)))).some l aM;have aG:=aj.ext ((K.trans n O).ext Z);have aO:=aN.ext ((K.trans n O).ext Z);have D:(c.up 10).next=r+11:=by show c.next+10=_;omega
    have aH:e≠r:=by omega
    have aP:d.next≠r:=by have:=E.next;omega
    have aI:∀(o:bn) (ab:ae) (v f G:Nat),f<=501->aF 2 o=some (.pointer (some ⟨r,0,none⟩))->aF 3 o=some (.bool true)->K pm H ab->eN ab (.slice (some ⟨e,0,none⟩) i s) i q.num.natAbs->eN ab (.slice (some ⟨v,0,none⟩) f G) f q.den->ab.get r=some (.cells (p' (decide (q<0)) e i s v f G) (.t T.px))->af .ret o ab:=by
     intro o ab v f G g c j m r x y;refine hQ _ _ _ ?_;simp[ft,c,j,y,bB,bA];exact⟨m,⟨_,_,i,f,rfl,r,x,by omega,g⟩,q.den_pos,λh=>qo (U (by simpa using h))⟩
    by_cases w:q.den=1
    ·have c:B=[]:=by rw[C,aL w]
     have j:hU.length=a.length:=by rw[b,c];simp
     have c:¬a.length<hU.length:=by omega
     have r:eN F (.slice (some ⟨d.next,0,none⟩) 1 1) 1 q.den:=by rw[w];exact aO
     simp[u.make,u.pick,ptr,<-hp,<-aa,an,setCells,ar,<-ad,M,N,c,-sn];refine El z (m:=a.length) (hU:=hU) (aK:=decide (q<0)) g aD (by omega) ao aE aG r (by omega) (by decide) aH aP (.inl j.symm) q.reduced (λh=>U (by simpa using h)) (by simp[m2]) (by simp[M]) (by simp[m5]) (by simp[N]) (by simp) (by simp) (by simp) ?_;exact λo ab c d j r x y=>aI o ab _ _ _ (by decide) c d j r x y
    ·have c:B=47::Lib.decDigits q.den:=by rw[C,aw w]
     have au:a.length<hU.length:=by rw[b,c];simp
     have d:hU.drop (a.length+1)=Lib.decDigits q.den:=by rw[b,c,List.drop_append];simp
     have c:wr .i64 ((a.length:Int)+1)=((a.length+1:Nat):Int):=by rw[cE];simp
     have D:a.length+1<=hU.length:=au;have I:(hU.drop (a.length+1)).take (hU.length-(a.length+1))=Lib.decDigits q.den:=by rw[qn (by simp),d]
     have P:=O.h;simp[u.make,u.pick,ptr,<-hp,<-aa,an,setCells,ar,<-ad,M,N,au,c,D,I,-zB,-zj,-sn];refine al.of (aq:=[ak (Lib.decDigits q.den)]) (D9 z P W) ?_;rintro _ H7 ⟨Q,v,f,G,rfl,_,hd⟩;rw[Gu]at hd;have c:=Q.h;have c:=hd.len cH;have aL:0<f:=qo λj=>q.den_nz ((hd.kS.ny).1 j);have aw:=Q.some P ao;have aQ:=Q.some P aE;have c:p<F.next:=P.lt ao;have c:e<p:=by
      obtain⟨_,_,g,_,h⟩:=aj.row;cases g
      rcases h with⟨j,_⟩ | ⟨x,y,row,j,Gs,_⟩
      ·cases j
      ·cases j;have:=Z.lt Gs;have:=n.next;omega
     obtain⟨H8,R⟩:∃A,A=H7.put p (.cells (p' (decide (q<0)) e i s v f G) (.t T.sl)):=⟨_,rfl⟩;have k8:K pm H H8:=by rw[R];exact aC.put (K.trans aD Q) (by have:=u.ah;have:=n.next;have:=t.next;have:=E.next;omega) aw (by simp) _
     have aF:H8.get p=some (.cells (p' (decide (q<0)) e i s v f G) (.t T.sl)):=by rw[R];exact bO
     have c:p≠r:=by have:=n.next;have:=t.next;have:=E.next;omega
     have aR:H8.get r=some (.cells [.bool false,.slice none 0 0,.slice none 0 0] (.t T.px)):=by rw[R,a6 (h:=Ne.symm c)];exact aQ
     have aJ:∀{S k ae x},S≠p->eN H7 (.slice (some ⟨S,0,none⟩) k ae) k x->eN H8 (.slice (some ⟨S,0,none⟩) k ae) k x:=λhb h=>h.at λ_ _ j y hy=>by
      cases j;rw[R,a6 (h:=hb)];exact hy
     have c:=aJ (show e≠p by omega) (aG.ext (Q.ext P));have d:=aJ (show v≠p by omega) hd;simp[aw,setCells,ar,<-R,aF,aL,-sn];refine El z (m:=a.length) (hU:=hU) (aK:=decide (q<0)) g k8 (by omega) aF aR c d (by omega) (by omega) aH (by omega) (.inr ⟨au,w⟩) q.reduced (λh=>U (by simpa using h)) (by simp[m2]) (by simp[M]) (by simp[m5]) (by simp[N]) (by simp) (by simp) (by simp) ?_;exact λo ab c S ae d j f=>aI o ab _ _ _ (by omega) c S ae d j f
   by_cases w:q.den=1
   ·have c:B=[]:=by rw[C,aL w]
    have d:¬a.length<hU.length:=by rw[b,c];simp
    simp[d,aR,-rI];exact aA _ (by simp) (by simp) (by simp) (by simp)
   ·have d:B=47::Lib.decDigits q.den:=by rw[C,aw w]
    have e:a.length<hU.length:=by rw[b,d];simp
    have f:hU[a.length]=47:=by
     subst b;simp[d]
    simp[e,f,-rI];exact aA _ (by simp) (by simp) (by simp) (by simp)
 have aS:=ay 0 ag;by_cases hq:q<0
 ·have e:bk q=45::hU:=by rw[av,aL hq];rfl
  rw[e];simp[g.make,g.pick,ptr,<-Y,<-J,-uU];refine cx.of l.ah rfl ?_;simp[b8,l.none,l.O,eM,b3,bZ, -te];exact ah _ (by simp) (by simp) (by simp[hq])
 ·have c:bk q=hU:=by rw[av,aw hq];rfl
  rw[c];obtain⟨d,t,e⟩:∃d t,hU=d::t:=by
   cases a with
   | nil=>exact absurd rfl ax
   | cons d t=>exact⟨d,t++B,by rw[b];rfl⟩
  have c:48<=d.toNat:=by
   have f:a[0]? = some d:=by
    have:hU[0]? = some d:=by rw[e];rfl
    rw[b,hY ag]at this;exact this
   rw[en ag]at f;cases f;exact aS.1
  have h:((d.toNat:Int)==45)=false:=by
   rw[lz];simp;omega
  rw[e]at ah|-;simp[g.make,g.pick,ptr,<-Y,<-J,-uU];refine cx.of l.ah rfl ?_;simp[b8,l.none,l.O,eM,b3,bZ, h,-te];exact ah _ (by simp) (by simp) (by simp[hq])
theorem FW(s:nD X)(g:bl pm H){v:Value}{k n d:Nat}{neg:Bool}(m:mN H v k neg n d):Call X pm F.qR [v] H λr ab=>K pm H ab/\mN ab r k (!neg&&!decide (n=0)) n d:=by
 refine Call.W s.qR rfl λ_ F=>?_;obtain⟨_,_,a,b,rfl,i,t,G,I⟩:=m.ex;have J:=m.d;obtain⟨c,d,rfl,_,_⟩:=i.row;obtain⟨e,f,rfl,_,_⟩:=t.row;obtain⟨p,u⟩:∃p,p=H.next:=⟨_,rfl⟩;obtain⟨h,j⟩:∃A,A=H.new (.cells [.bool neg,.slice c a d,.slice e b f] (.t T.En)):=⟨_,rfl⟩;have k:K pm H h:=by rw[j];exact K.new g _
 have v:=k.h;have L:h.get p=some (.cells [.bool neg,.slice c a d,.slice e b f] (.t T.En)):=by rw[j,u];exact cc
 obtain⟨r,w⟩:∃r,r=h.next:=⟨_,rfl⟩;have x:H.next<=r:=by have:=k.next;omega
 obtain⟨y,l⟩:∃A,A=h.new (.cells [.bool false,.slice none 0 0,.slice none 0 0] (.t T.vq)):=⟨_,rfl⟩;have m:K pm h y:=by rw[l];exact K.new v _
 have z:=m.h;have M:y.get r=some (.cells [.bool false,.slice none 0 0,.slice none 0 0] (.t T.vq)):=by rw[l,w];exact cc
 have h:=m.some v L;have B:=K.trans k m;simp[g.make,g.pick,ptr,<-u,<-j,  <-w,<-l,h,-A3];refine al.of (aq:=[.bool (!neg),.slice c a d,.slice e b f]) (sM s z (i.ext (B.ext g)) rfl) ?_;rintro _ N ⟨C,rfl⟩;have D:=C.some z M;have O:=K.trans B C;have P:pm.may r=true:=g.may x;obtain⟨E,o⟩:∃A,A=N.put r (.cells [.bool (!neg&&!decide (n=0)),.slice c a d,.slice e b f] (.t T.vq)):=⟨_,rfl⟩;have q:K pm H E:=by rw[o];exact aC.put O x D (by simp) _
 have h:E.get r=some (.cells [.bool (!neg&&!decide (n=0)),.slice c a d,.slice e b f] (.t T.vq)):=by rw[o];exact bO
 simp[D,setCells,P,<-o];refine F _ _ _ ?_;simp[ft,h,bB,bA];refine⟨q,⟨_,_,a,b,rfl,i.ext (q.ext g),t.ext (q.ext g),G,I⟩,J,λh=>?_⟩;simp at h;omega
def rX(neg:Bool)(n:Nat):Int:=if n=0 then 0 else if neg=true then -1 else 1
theorem FY(s:nD X)(g:bl pm H){v:Value}{k n d:Nat}{neg:Bool}(t:mN H v k neg n d):Call X pm F.q2 [v] H λr ab=>K pm H ab/\r=.int .i64 (rX neg n):=by
 refine Call.W s.q2 rfl λ_ e=>?_;obtain⟨_,_,b,i,rfl,j,r,_,_⟩:=t.ex;have u:=j.kS.ny;obtain⟨k,l,rfl,_,_⟩:=j.row;obtain⟨m,o,rfl,_,_⟩:=r.row;obtain⟨p,c⟩:∃p,p=H.next:=⟨_,rfl⟩;obtain⟨q,a⟩:∃A,A=H.new (.cells [.bool neg,.slice k b l,.slice m i o] (.t T.Er)):=⟨_,rfl⟩;have f:K pm H q:=by rw[a];exact K.new g _
 have h:q.get p=some (.cells [.bool neg,.slice k b l,.slice m i o] (.t T.Er)):=by rw[a,c];exact cc
 by_cases d:n=0
 ·have i:((b:Int)==0)=true:=by simpa using u.2 d
  simp[g.make,g.pick,ptr,<-c,<-a,h,i];refine e _ _ _ ?_;simp[rX,d];exact f
 ·have n:((b:Int)==0)=false:=by
   rw[lz];simp;omega
  cases neg
  ·simp[g.make,g.pick,ptr,<-c,<-a,h,n];refine e _ _ _ ?_;simp[rX,d];exact f
  ·simp[g.make,g.pick,ptr,<-c,<-a,h,n];refine e _ _ _ ?_;simp[rX,d];exact f
def iB(neg:Bool)(n:Nat):Int:=if neg=true then -(n:Int) else n
theorem Fw{neg:Bool}{n:Nat}:iB (neg&&!decide (n=0)) n=iB neg n:=by
 unfold iB;by_cases h:n=0
 ·subst h;cases neg<;>simp
 ·cases neg<;>simp[h]
theorem eN.form{v:Value}{k n:Nat}(h:eN H v k n):∃b c,v=.slice b k c:=by
 obtain⟨b,c,e,_⟩:=h.row;exact⟨b,c,e⟩
theorem CZ{a b k l:Nat}(b7:a<10000^k)(cH:b<10000^l):a*b<10000^(k+l):=by
 rw[hG];exact Nat.mul_lt_mul'' b7 cH
theorem eN.Q{v:Value}{k K n:Nat}(h:eN H v k n)(a:k<=K):n<10000^K:=fK h.kS.1 (hX (by decide) a)
theorem F0(y:nD X)(g:bl pm H){fm dB:Value}{p q f a gg c:Nat}{h i:Bool}(aI:mN H fm p h f a)(hb:mN H dB q i gg c)(l1:p<=20000)(l2:q<=20000):
 Call X pm F.q3 [fm,dB] H λr ab=>K pm H ab/\∃neg n,mN ab r (p+q+1) neg n (a*c)/\iB neg n=iB h f*c+iB i gg*a:=by
 refine Call.W y.q3 rfl λaQ hQ=>?_;have aR:=aI.d;have aS:=hb.d;obtain⟨_,_,ax,aa,rfl,i1,i2,j1,j2⟩:=aI.ex;obtain⟨_,_,ay,ad,rfl,i3,i4,j3,j4⟩:=hb.ex;have aT:=i1.Q j1;have aN:=i2.Q j2;have aU:=i3.Q j3;have aO:=i4.Q j4;obtain⟨az,aA,rfl⟩:=i1.form;obtain⟨af,ag,rfl⟩:=i2.form;obtain⟨aB,aD,rfl⟩:=i3.form;obtain⟨ai,aj,rfl⟩:=i4.form;obtain⟨p2,aE⟩:∃S,S=H.next:=⟨_,rfl⟩;obtain⟨N,ak⟩:∃J,J=H.new (.cells [.bool h,.slice az ax aA,.slice af aa ag] (.t T.Es)):=⟨_,rfl⟩;have m1:K pm H N:=by rw[ak];exact K.new g _
 have g1:=m1.h;have q1:N.get p2=some (.cells [.bool h,.slice az ax aA,.slice af aa ag] (.t T.Es)):=by rw[ak,aE];exact cc
 have x1:N.next=p2+1:=by rw[ak,aE];rfl
 obtain⟨p3,aG⟩:∃S,S=N.next:=⟨_,rfl⟩;obtain⟨O,an⟩:∃J,J=N.new (.cells [.bool i,.slice aB ay aD,.slice ai ad aj] (.t T.Et)):=⟨_,rfl⟩;have m2:K pm N O:=by rw[an];exact K.new g1 _
 have g2:=m2.h;have q2:O.get p3=some (.cells [.bool i,.slice aB ay aD,.slice ai ad aj] (.t T.Et)):=by rw[an,aG];exact cc
 have N:O.next=p3+1:=by rw[an,aG];rfl
 obtain⟨k,aH⟩:∃S,S=O.next:=⟨_,rfl⟩;obtain⟨u,ao⟩:∃J,J=O.new (.cells [.bool false,.slice none 0 0,.slice none 0 0] (.t T.rK)):=⟨_,rfl⟩;have N:K pm O u:=by rw[ao];exact K.new g2 _
 have l:=N.h;have r4:u.get k=some (.cells [.bool false,.slice none 0 0,.slice none 0 0] (.t T.rK)):=by rw[ao,aH];exact cc
 have r2:=N.some g2 (m2.some g1 q1);have r3:=N.some g2 q2;have aP:K pm H u:=K.trans m1 (K.trans m2 N);have P:=aP.ext g;have N:u.next=k+1:=by rw[ao,aH];rfl
 have aJ:=λo=>ej (ah:=pm.ah) (ok:=pm.ok) (o:=o) (b:=k) (by have:=g.ah;omega);have N:pm.may k=true:=g.may (by omega);have kU:K pm u (u.up 12):=(K.refl l).up 12;have gU:=kU.h;have eU:=kU.ext l;obtain⟨A,hz⟩:∃A,A=u.next:=⟨_,rfl⟩;have aK:=λj=>(by rw[hz];exact l.none j:(u.up 12).get (A+j)=none);have aV:=(by rw[hz];exact l.O:(u.up 12).get A=none);simp[g.make,g.pick,ptr,<-aE,<-ak,  <-aG,<-an,  <-aH,<-ao,-Bk];refine cx.of l.ah rfl ?_;rw[<-hz];simp[b8,aK,aV,r2,r3];refine cY gU (aq:=[.slice az ax aA,.slice ai ad aj]) (by simp[aK]) rfl (λL s=>sN y.toNE s ((i1.ext P).ext eU) ((i4.ext P).ext eU)) ?_;rintro _ O N ⟨U,hx,_⟩;have g4:=N.h;have S:u.next+12<=O.next:=N.next;have yn:∀j,j<12->O.get (A+j)=none:=λj z=>(N.get _ (by show A+j<u.next+12;omega)).trans (aK j);have V:K pm u O:=K.trans kU N;have N:=V.some l r2;have N:=V.some l r3;simp;refine fG g4 (aq:=[.slice aB ay aD,.slice af aa ag]) (by simp[yn]) rfl (λL s=>sN y.toNE s ((i3.ext P).ext (V.ext l)) ((i2.ext P).ext (V.ext l))) ?_;rintro _ O N ⟨W,hy,_⟩;have g5:=N.h;have zn:∀j,j<12->O.get (A+j)=none:=λj z=>(N.get _ (by omega)).trans (yn j z);have Q:K pm u O:=K.trans V N;have aX:=hx.ext (N.ext g4);have t2:=Q.some l r2;have t3:=Q.some l r3;have c1:p2<A:=by omega
 have c2:p3<A:=by omega
 have N:k<A:=by omega
 have A:f*c<10000^(p+q):=CZ aT aO;have N:gg*a<10000^(p+q):=by rw[Nat.add_comm p q];exact CZ aU aN
 have O:U<=p+q:=hx.kS.le A;have A:W<=p+q:=hy.kS.le N;obtain⟨bx,ar,rfl⟩:=hx.form;obtain⟨au,cy,rfl⟩:=hy.form;simp[zn,b3,bZ,fT,cU,dj,c1,c2,t2,t3,-Bc];refine al.of (aq:=[.slice af aa ag,.slice ai ad aj]) (sN y.toNE g5 ((i2.ext P).ext (Q.ext l)) ((i4.ext P).ext (Q.ext l))) ?_;rintro _ e ⟨A,v,R,fd⟩;have d:=A.h;have N:K pm u e:=K.trans Q A;have aY:K pm H e:=K.trans aP N;have av:=aX.ext (A.ext g5);have aw:=hy.ext (A.ext g5);have Y:=N.some l r2;have u3:=N.some l r3;have Z:=N.some l r4;have l:a*c<10000^(p+q):=CZ aN aO;have u:v<=p+q:=R.kS.le l;have aZ:0<a*c:=tm aR aS;obtain⟨B,C,rfl⟩:=R.form;obtain⟨w,I⟩:∃w,w=e.next:=⟨_,rfl⟩;have v2:p2<w:=by rw[I];exact d.lt Y
 have v3:p3<w:=by rw[I];exact d.lt u3
 have v4:k<w:=by rw[I];exact d.lt Z
 have m:K pm e (e.up 8):=(K.refl d).up 8;have gW:=m.h;have D:=λj=>(by rw[I];exact d.none j:(e.up 8).get (w+j)=none);have aL:=(by rw[I];exact d.O:(e.up 8).get w=none);have u:j6 (k+1) (.slice B v C):=fd.le (by have:=Q.next;omega)
 have aM:∀(t:ae) (neg:Bool) (n x:Nat) (E:Option Addr) (G:Nat) (l:bn),K pm e t->eN t (.slice E x G) x n->j6 e.next (.slice E x G)->n<10000^(p+q+1)->iB neg n=iB h f*c+iB i gg*a->aF 4 l=some (.pointer (some ⟨k,0,none⟩))->
  aQ .ret l (t.put k (.cells [.bool (neg&&!decide (n=0)),.slice E x G,.slice B v C] (.t T.rK))):=by
  intro t neg n x E G l g l A N M l4;have o4:=g.some d Z;have ab:K pm H t:=K.trans aY g;have r:=l.Fm (b:=k) (A.le (aW:=k+1) (by omega)) (qq k) (.cells [.bool (neg&&!decide (n=0)),.slice E x G,.slice B v C] (.t T.rK));have F:=(R.ext (g.ext d)).Fm (b:=k) u (qq k) (.cells [.bool (neg&&!decide (n=0)),.slice E x G,.slice B v C] (.t T.rK));have ae:x<=p+q+1:=l.kS.le N;obtain⟨X,o⟩:∃J,J=t.put k (.cells [.bool (neg&&!decide (n=0)),.slice E x G,.slice B v C] (.t T.rK)):=⟨_,rfl⟩;have kF:K pm H X:=by rw[o];exact aC.put ab (by omega) o4 (by simp) _
  have gF:X.get k=some (.cells [.bool (neg&&!decide (n=0)),.slice E x G,.slice B v C] (.t T.rK)):=by rw[o];exact bO
  rw[<-o]at r F|-;refine hQ _ _ _ ⟨.inr rfl,[.agg #[.bool (neg&&!decide (n=0)),.slice E x G,.slice B v C]],by simp[ft,l4,gF,bB,bA],kF,_,n,⟨⟨_,_,x,v,rfl,r,F,ae,by omega⟩,aZ,λg=>?_⟩,Fw.trans M⟩;simp at g;omega
 by_cases M:h=i
 ·have ab:(h==i)=true:=by simpa using M
  have r:f*c+gg*a<10000^(p+q+1):=by
   rw[eB];omega
  have F:iB h (f*c+gg*a)=iB h f*c+iB i gg*a:=by
   rw[<-M];unfold iB;cases h<;>simp<;>grind
  simp[Y,u3,ab,-vT,-sq];refine cx.of d.ah rfl ?_;rw[<-I];simp[b8,D,aL,Y];refine cY gW (aq:=[.slice bx U ar,.slice au W cy]) (by simp[D]) rfl (λL s=>FP y.toNE s (av.ext (m.ext d)) (aw.ext (m.ext d)) (by omega) (by omega)) ?_;rintro _ H b ⟨T,g,fs⟩;obtain⟨X,cs,rfl⟩:=g.form;obtain⟨o,hS⟩:∃o,o=f*c+gg*a:=⟨_,rfl⟩;rw[<-hS]at g r F;have gY:=b.h;have k:e.next+8<=H.next:=b.next;have wn:∀j,j<8->H.get (w+j)=none:=λj z=>(b.get _ (by show w+j<e.next+8;omega)).trans (D j);have k:=R.ext ((K.trans m b).ext d);simp;refine fG gY (aq:=[.bool h,.slice X T cs,.slice B v C]) (by simp[wn]) rfl (λL s=>sM y s g rfl) ?_;rintro _ t n rfl;have k:∀j,j<8->t.get (w+j)=none:=λj z=>(n.get _ (by omega)).trans (wn j z);have l:=(K.trans m (K.trans b n)).some d Z;simp[k,l,setCells,aJ,b3,bZ,fT,cU,dj,v2, v4];refine aM t h o T X cs _ (K.trans m (K.trans b n)) (g.ext (n.ext gY)) (fs.le (by show e.next<=e.next+8;omega)) r F ?_;simp
 ·have k:(h==i)=false:=by simpa using M
  simp[Y,u3,k,-Bo,-vT,-sq];refine al.of (aq:=[.slice bx U ar,.slice au W cy]) (uh y.toNE av aw (by omega) (by omega)) ?_;rintro _ e ⟨rfl,rfl⟩;by_cases r:f*c<gg*a
  ·have F:gg*a-f*c<10000^(p+q+1):=by
    rw[eB];omega
   have H:iB i (gg*a-f*c)=iB h f*c+iB i gg*a:=by
    have k:((gg*a-f*c:Nat):Int)=(gg:Int)*a-f*c:=by
     rw[Int.ofNat_sub (by omega)];simp
    unfold iB;rw[k];cases h<;>cases i<;>simp at M|-<;>grind
   simp[r,-sq];refine cx.of d.ah rfl ?_;rw[<-I];simp[b8,D,aL,u3];refine cY gW (aq:=[.slice au W cy,.slice bx U ar]) (by simp[D]) rfl (λL s=>w2 y.toNE s (aw.ext (m.ext d)) (av.ext (m.ext d)) (by omega) (by omega) (by omega)) ?_;rintro _ T b ⟨X,g,fs⟩;obtain⟨bs,cs,rfl⟩:=g.form;obtain⟨o,hS⟩:∃o,o=gg*a-f*c:=⟨_,rfl⟩;rw[<-hS]at g F H;have gY:=b.h;have k:e.next+8<=T.next:=b.next;have wn:∀j,j<8->T.get (w+j)=none:=λj z=>(b.get _ (by show w+j<e.next+8;omega)).trans (D j);have k:=R.ext ((K.trans m b).ext d);simp;refine fG gY (aq:=[.bool i,.slice bs X cs,.slice B v C]) (by simp[wn]) rfl (λL s=>sM y s g rfl) ?_;rintro _ t n rfl;have k:∀j,j<8->t.get (w+j)=none:=λj z=>(n.get _ (by omega)).trans (wn j z);have l:=(K.trans m (K.trans b n)).some d Z;simp[k,l,setCells,aJ,b3,bZ,fT,cU,dj, v3,v4];refine aM t i o X bs cs _ (K.trans m (K.trans b n)) (g.ext (n.ext gY)) (fs.le (by show e.next<=e.next+8;omega)) F H ?_;simp
  ·have F:f*c-gg*a<10000^(p+q+1):=by
    rw[eB];omega
   have H:iB h (f*c-gg*a)=iB h f*c+iB i gg*a:=by
    have k:((f*c-gg*a:Nat):Int)=(f:Int)*c-gg*a:=by
     rw[Int.ofNat_sub (by omega)];simp
    unfold iB;rw[k];cases h<;>cases i<;>simp at M|-<;>grind
   simp[r,-sq];refine cx.of d.ah rfl ?_;rw[<-I];simp[b8,D,aL,Y];refine cY gW (aq:=[.slice bx U ar,.slice au W cy]) (by simp[D]) rfl (λL s=>w2 y.toNE s (av.ext (m.ext d)) (aw.ext (m.ext d)) (by omega) (by omega) (by omega)) ?_;rintro _ T b ⟨X,g,fs⟩;obtain⟨bs,cs,rfl⟩:=g.form;obtain⟨o,hS⟩:∃o,o=f*c-gg*a:=⟨_,rfl⟩;rw[<-hS]at g F H;have gY:=b.h;have a:e.next+8<=T.next:=b.next;have wn:∀j,j<8->T.get (w+j)=none:=λj z=>(b.get _ (by show w+j<e.next+8;omega)).trans (D j);have a:=R.ext ((K.trans m b).ext d);simp;refine fG gY (aq:=[.bool h,.slice bs X cs,.slice B v C]) (by simp[wn]) rfl (λL s=>sM y s g rfl) ?_;rintro _ t n rfl;have a:∀j,j<8->t.get (w+j)=none:=λj z=>(n.get _ (by omega)).trans (wn j z);have c:=(K.trans m (K.trans b n)).some d Z;simp[a,c,setCells,aJ,b3,bZ,fT,cU,dj,v2, v4];refine aM t h o X bs cs _ (K.trans m (K.trans b n)) (g.ext (n.ext gY)) (fs.le (by show e.next<=e.next+8;omega)) F H ?_;simp
theorem Hq{neg:Bool}{n:Nat}:iB (!neg&&!decide (n=0)) n=-iB neg n:=by
 rw[Fw];unfold iB;cases neg<;>simp
theorem Hs{neg:Bool}{n:Nat}:rX neg n=(iB neg n).sign:=by
 unfold rX iB;by_cases h:n=0
 ·subst h;cases neg<;>simp
 ·cases neg
  ·simp[h,Int.sign_eq_one_of_pos (show(0:Int)<(n:Int) by omega)]
  ·simp[h,Int.sign_eq_one_of_pos (show(0:Int)<(n:Int) by omega)]
theorem FX(i:nD X)(g:bl pm H){fm dB:Value}{L M m n gg o:Nat}{b c:Bool}(aI:mN H fm L b m n)(N:mN H dB M c gg o)(l1:L<=10000)(L:M<=10000):
 Call X pm F.q1 [fm,dB] H λr ab=>K pm H ab/\r=.int .i64 (iB b m*o-iB c gg*n).sign:=by
 refine Call.W i.q1 rfl λ_ hQ=>?_;obtain⟨_,_,p,q,rfl,i1,i2,_,_⟩:=id aI.ex;obtain⟨_,_,s,t,rfl,i3,i4,_,_⟩:=id N.ex;obtain⟨u,v,rfl⟩:=i1.form;obtain⟨w,x,rfl⟩:=i2.form;obtain⟨y,A,rfl⟩:=i3.form;obtain⟨B,C,rfl⟩:=i4.form;obtain⟨O,P⟩:∃D,D=H.next:=⟨_,rfl⟩;obtain⟨e,E⟩:∃G,G=H.new (.cells [.bool b,.slice u p v,.slice w q x] (.t T.Eo)):=⟨_,rfl⟩;have Q:K pm H e:=by rw[E];exact K.new g _
 have R:=Q.h;have q1:e.get O=some (.cells [.bool b,.slice u p v,.slice w q x] (.t T.Eo)):=by rw[E,P];exact cc
 obtain⟨S,U⟩:∃D,D=e.next:=⟨_,rfl⟩;obtain⟨a,I⟩:∃G,G=e.new (.cells [.bool c,.slice y s A,.slice B t C] (.t T.Ep)):=⟨_,rfl⟩;have D:K pm e a:=by rw[I];exact K.new R _
 have d:=D.h;have V:a.get S=some (.cells [.bool c,.slice y s A,.slice B t C] (.t T.Ep)):=by rw[I,U];exact cc
 have W:=D.some R q1;have ad:=K.trans Q D;obtain⟨z,f⟩:∃z,z=a.next:=⟨_,rfl⟩;have c2:O<z:=by rw[f];exact d.lt W
 have c3:S<z:=by rw[f];exact d.lt V
 have e:K pm a (a.up 6):=(K.refl d).up 6;have gU:=e.h;have Y:=K.trans ad e;have J:=λj=>(by rw[f];exact d.none j:(a.up 6).get (z+j)=none);have ae:=(by rw[f];exact d.O:(a.up 6).get z=none);simp[g.make,g.pick,ptr,<-P,<-E,  <-U,<-I];refine cx.of d.ah rfl ?_;rw[<-f];simp[b8,J,ae,W,V,bB,bA];refine cY gU (aq:=[.agg #[.bool c,.slice y s A,.slice B t C]]) (by simp[J]) rfl (λZ h=>FW i h (N.ext (Y.ext g))) ?_;rintro f e d hu;have s:=d.h;have t:a.next+6<=e.next:=d.next;have aa:=K.trans Y d;have yn:∀j,j<6->e.get (z+j)=none:=λj k=>(d.get _ (by show z+j<a.next+6;omega)).trans (J j);simp;refine fG s (aq:=[.agg #[.bool b,.slice u p v,.slice w q x],f]) (by simp[yn]) rfl (λZ h=>F0 i h (aI.ext (aa.ext g)) hu (by omega) (by omega)) ?_;rintro s a l ⟨af,ag,hs,hv⟩;have d:=l.h;have zn:∀j,j<6->a.get (z+j)=none:=λj k=>(l.get _ (by omega)).trans (yn j k);simp;refine fG d (aq:=[s]) (by simp[zn]) rfl (λZ h=>FY i h hs) ?_;rintro _ H5 m5 rfl;have a:∀j,j<6->H5.get (z+j)=none:=λj k=>(m5.get _ (by have:=l.next;omega)).trans (zn j k);have d:rX af ag=(iB b m*o-iB c gg*n).sign:=by
  rw[Hs,hv,Hq,Int.neg_mul,Int.sub_eq_add_neg]
 simp[a,b3,bZ,fT,cU,dj,c2,c3];refine hQ _ _ _ ?_;simp[d];exact K.trans aa (K.trans l m5)
structure wD(X:aA):Prop extends nD X where
 p7:Has X F.p7 C.p7
theorem Hr(q:Rat):iB (decide (q<0)) q.num.natAbs=q.num:=by
 unfold iB;by_cases h:q<0
 ·have:=(zn q).1 h;simp[h];omega
 ·have:¬q.num<0:=λe=>h ((zn q).2 e);simp[h];omega
theorem FG(p q:Rat):(p.num*q.den-q.num*p.den).sign=iF p q:=by
 unfold iF;by_cases h:p<q
 ·rw[aL h];have:=(Rat.lt_iff p q).1 h;exact Int.sign_eq_neg_one_of_neg (by omega)
 ·rw[aw h];by_cases a:p=q
  ·subst a;rw[aL rfl,Int.sub_self];rfl
  ·rw[aw a];have a:q<p:=by grind
   have:=(Rat.lt_iff q p).1 a;exact Int.sign_eq_one_of_pos (by omega)
theorem ET{q:Rat}(h:isNum (bk q)=true):q.num.natAbs<bS 2000/\q.den<bS 2000:=by
 unfold isNum gq lh at h;rw[HN,Gh]at h;have a:ie (Lib.decDigits q.num.natAbs)=true/\ie (Lib.decDigits q.den)=true:=by
  by_cases a:ie (Lib.decDigits q.num.natAbs)=true/\ie (Lib.decDigits q.den)=true
  ·exact a
  ·rw[aw (λb=>a ⟨b.1,b.2.1⟩)]at h;cases h
 have c:∀{n:Nat},ie (Lib.decDigits n)=true->n<bS 2000:=λ{n} b=>by
  unfold ie at b;simp[cJ]at b;have d:=b.2.1;rw[Lib.decDigits_length]at d;have b:=Lib.lt_pow_nDigits n;rw[<-fQ]at b;exact fK b (j4 d)
 exact⟨c a.1,c a.2⟩
theorem Fj(c:wD X)(g:bl pm H){p q:Rat}(N:isNum (bk p)=true)(O:isNum (bk q)=true):Call X pm F.p7 [ak (bk p),ak (bk q)] H λr ab=>K pm H ab/\r=.int .i64 (iF p q):=by
 refine Call.W c.p7 rfl λ_ P=>?_;obtain⟨Q,R⟩:=ET N;obtain⟨S,U⟩:=ET O;simp[-CY,-CV];refine al.of (aq:=[ak (bk p)]) (Em c.tonD g Q R) ?_;rintro _ d ⟨G,_,rfl,H⟩;have a:=G.h;obtain⟨_,_,i,j,rfl,V,W,_⟩:=id H.ex;obtain⟨k,l,rfl⟩:=V.form;obtain⟨m,n,rfl⟩:=W.form;obtain⟨e,o⟩:∃r,r=d.next:=⟨_,rfl⟩;have X:pm.may e=true:=a.may (by omega);have Y:∀x,(d.new x).get e=some x:=λx=>by rw[o];exact cc
 obtain⟨I,s⟩:∃A,A=(d.new (.cells [.bool false,.slice none 0 0,.slice none 0 0] (.t T.Cs))).put e (.cells [.bool (decide (p<0)),.slice k i l,.slice m j n] (.t T.Cs)):=⟨_,rfl⟩;have t:K pm d I:=by rw[s,o];exact gh a _ _
 have u:=t.h;have Z:I.get e=some (.cells [.bool (decide (p<0)),.slice k i l,.slice m j n] (.t T.Cs)):=by rw[s];exact bO
 have aa:=H.ext (t.ext a);simp[a.make,a.pick,ptr, <-o,Y,X,setCells,<-s,-CX,-CU];refine al.of (aq:=[ak (bk q)]) (Em c.tonD u S U) ?_;rintro _ f ⟨J,_,rfl,L⟩;have b:=J.h;obtain⟨_,_,v,w,rfl,i3,i4,_⟩:=id L.ex;obtain⟨y,z,rfl⟩:=i3.form;obtain⟨B,C,rfl⟩:=i4.form;obtain⟨h,D⟩:∃r,r=f.next:=⟨_,rfl⟩;have ab:pm.may h=true:=b.may (by omega);have ad:∀x,(f.new x).get h=some x:=λx=>by rw[D];exact cc
 obtain⟨M,E⟩:∃A,A=(f.new (.cells [.bool false,.slice none 0 0,.slice none 0 0] (.t T.CF))).put h (.cells [.bool (decide (q<0)),.slice y v z,.slice B w C] (.t T.CF)):=⟨_,rfl⟩;have a:K pm f M:=by rw[E,D];exact gh b _ _
 have d:=a.h;have e:M.get h=some (.cells [.bool (decide (q<0)),.slice y v z,.slice B w C] (.t T.CF)):=by rw[E];exact bO
 have F:=K.trans J a;have f:=F.some u Z;simp[b.make,b.pick,ptr,bA,<-D,ad,ab,setCells,<-E,f,e,bB,-CW];refine al.of (aq:=[.agg #[.bool (decide (p<0)),.slice k i l,.slice m j n],.agg #[.bool (decide (q<0)),.slice y v z,.slice B w C]]) (FX c.tonD d (aa.ext (F.ext u)) (L.ext (a.ext b)) (by decide) (by decide)) ?_;rintro _ _ ⟨k5,rfl⟩;simp;refine P _ _ _ ?_;simp[Hr,FG];exact K.trans G (K.trans t (K.trans F k5))
theorem hh.form{A:Nat->Prop}{k w:Nat}{v:Value}{P:Nat->List Value->Prop}(h:hh H A v k w P):∃a cap,v=.slice a k cap:=by
 obtain⟨a,cap,e,_⟩:=h;exact⟨a,cap,e⟩
theorem ou.imp{A iS:Nat->Prop}{a c:Nat}{v:Value}{l:List (Nat×List a1)}(h:ou H A a c v l)(e:∀b y,A b->H.get b=some y->iS b/\ab.get b=some y)(cA:∀L,H.get a=some (.cells L (.n 2))->ab.get a=some (.cells L (.n 2))):ou ab iS a c v l:=by
 rcases h with h | ⟨b,c,L,d,f,a⟩
 ·exact .inl h
 ·exact .inr ⟨b,c,L,cA _ d,f,λi b=>⟨(a i b).1,(a i b).2.imp λ_ q=>⟨q.1,q.2.imp e λ_ _ _ h=>h⟩⟩⟩
theorem gp.imp{A iS:Nat->Prop}{a:Nat}{v:Value}{l:List cz}(h:gp H A a v l)(e:∀b y,A b->H.get b=some y->iS b/\ab.get b=some y)(cA:∀L,H.get a=some (.cells L (.n 5))->ab.get a=some (.cells L (.n 5))):gp ab iS a v l:=by
 rcases h with h | ⟨a,L,b,f,c,d⟩
 ·exact .inl h
 ·exact .inr ⟨a,L,cA _ b,f,c,λi a=>(d i a).imp λ_ q=>⟨q.1,q.2.imp e⟩⟩
theorem Tt{l:List (Nat×List a1)}{k:Nat}{cs:List a1}{i:Nat}(a:i<(l++[(k,cs)]).length):(i<l.length/\∃h:i<l.length,(l++[(k,cs)])[i]=l[i])∨(i=l.length/\(l++[(k,cs)])[i]=(k,cs)):=by
 by_cases h:i<l.length
 ·exact .inl ⟨h,h,List.getElem_append_left h⟩
 ·have:i=l.length:=by simp at a;omega
  subst this;exact .inr ⟨rfl,by simp⟩
theorem ou.app{A:Nat->Prop}{a g c ah k:Nat}{fJ:List Nat}{u f:Value}{l:List (Nat×List a1)}{cs:List a1}(h:ou H A a g u l)(v:∀b,A b->b≠a/\b≠c)(z:a≠c)(w:Perm.may ⟨ah,fJ,some c⟩ a=true)(o:l.length<1000000)(p:hh H A f cs.length 5 (gA cs))(r:H.get c=none):
 ∃i s B ab F M,(fj 2 32 u [.int .i64 (k:Int),f] 1).runT ⟨ah,fJ,some c⟩ H=some (i,ab,F,M)/\ou ab A s B i (l++[(k,cs)])/\(s=a∨s=c)/\(∀b,b≠a->b≠c->ab.get b=H.get b)/\(∀b y,b≠c->H.get b=some y->(∀L,y≠.cells L (.n 2))->ab.get b=some y)/\ab.next=H.next/\(∀x∈F,x=a)/\(∀{n:Nat} {ai:ae} {pm:Perm},aC pm n ai H->n<=a->n<=c->c<H.next->aC pm n ai ab)/\dd i=true/\i.cells=#[i]:=by
 obtain⟨_,_,i⟩:=p.form;have j:dd f=true:=by rw[i];rfl
 have d:(l.length+1)*32<=17179869184:=by omega
 have m:∀{ab:ae} {f:Value} {cs:List a1},(∀b,b≠a->b≠c->ab.get b=H.get b)->hh H A f cs.length 5 (gA cs)->hh ab A f cs.length 5 (gA cs):=λi h=>h.imp (λb y q e=>⟨q,by rw[i b (v b q).1 (v b q).2];exact e⟩) λ_ _ _ h=>h
 rcases h with⟨rfl,rfl,rfl⟩ | ⟨rfl,cH,L,cD,dS,gf⟩
 ·refine⟨.slice (some ⟨c,0,none⟩) 1 1,c,1,H.put c (.cells [.int .i64 (k:Int),f] (.n 2)),[],[c],?_,?_,.inr rfl,λb _ d=>a6 (h:=d),λb y d e _=>by rw[a6 (h:=d)];exact e,rfl,by simp,λu _ i o=>aC.fill u i r o _,rfl,rfl⟩
  ·unfold fj;simp[Perm.make,Perm.pick,j]
  ·refine .inr ⟨rfl,bc _,_,bO,rfl,λk l=>?_⟩;obtain rfl:k=0:=by simp at l;omega
   exact⟨rfl,f,rfl,m (λb _ d=>a6 (h:=d)) p⟩
 ·by_cases t:l.length+1<=g
  ·have A:∃n,setCells L (l.length*2) [.int .i64 (k:Int),f]=some n:=by
    unfold setCells;rw[cJ,hd (show l.length*2+[Value.int IntKind.i64 (k:Int),f].length<=L.length by simp;omega)];exact⟨_,rfl⟩
   obtain⟨n,x⟩:=A;obtain⟨_,_,k⟩:=vf x;refine⟨.slice (some ⟨a,0,none⟩) (l.length+1) g,a,g,H.put a (.cells n (.n 2)),[a],[a],?_,?_,.inl rfl,λb d _=>a6 (h:=d),λb y _ e i=>by
    have d:b≠a:=λl=>by
     rw[l,cD]at e;exact i L (jH e).symm
    rw[a6 (h:=d)];exact e,rfl,by simp,λu i _ _=>aC.put u i cD (by simp) _,rfl,rfl⟩
   ·unfold fj;simp[t,putRow,cD,j,x,w]
   ·refine .inr ⟨by simp,by simpa using t,_,bO,by omega,λy l=>?_⟩
    rcases Tt l with⟨l,_,e⟩ | ⟨rfl,e⟩
    ·rw[e,k,aw (by omega),k,aw (by omega)];exact⟨(gf y l).1,(gf y l).2.imp λf q=>⟨q.1,m (λb d _=>a6 (h:=d)) q.2⟩⟩
    ·rw[e,k,aL (by simp),k,aL (by simp)];exact⟨by simp,f,by simp,m (λb d _=>a6 (h:=d)) p⟩
  ·have i:g=l.length:=by omega
   have x:bB L 0 (l.length*2)=some L:=by rw[show l.length*2=L.length by omega];exact G1 L
   have A:(H.put a .dead).get c=none:=by rw[a6 (h:=Ne.symm z)];exact r
   have n:∀b,b≠a->b≠c->((H.put a .dead).put c (.cells (L++[.int .i64 (k:Int),f]) (.n 2))).get b=H.get b:=λb j cH=>by rw[a6 (h:=cH),a6 (h:=j)]
   refine⟨.slice (some ⟨c,0,none⟩) (l.length+1) (l.length+1),c,l.length+1,(H.put a .dead).put c (.cells (L++[.int .i64 (k:Int),f]) (.n 2)),[a],[a,c],?_,?_,.inr rfl,n,λb y r e c=>by
    have d:b≠a:=λa=>by
     rw[a,cD]at e;exact c L (jH e).symm
    rw[n b d r];exact e,rfl,by simp,λu a c o=>aC.fill (aC.put u a cD (by simp) .dead) c A o _,rfl,rfl⟩
   ·unfold fj;simp[t,Perm.make,Perm.pick,j,cD,x,w,d,show l.length+1<=17179869184 by omega]
   ·refine .inr ⟨by simp,by simp,_,bO,by simp;omega,λh b=>?_⟩
    rcases Tt b with⟨b,_,e⟩ | ⟨rfl,e⟩
    ·rw[e,hY (by omega),hY (by omega)];exact⟨(gf h b).1,(gf h b).2.imp λf q=>⟨q.1,m n q.2⟩⟩
    ·rw[e,iq (by omega),iq (by omega),show l.length*2-L.length=0 by omega,show l.length*2+1-L.length=1 by omega];exact⟨rfl,f,rfl,m n p⟩
end Go.Dam.C
namespace Go.Dam.C
open Go Go.Dam
variable{X:aA}{pm:Perm}{H ab bX ai:ae}{n:Nat}
theorem ey.app{L xs:List Value}{w n:Nat}{f:Nat->List Value}(h:ey L w n f)(a:xs.length=w):ey (L++xs) w (n+1) λj=>if j=n then xs else f j:=by
 refine⟨by simp[h.1,a,j0],λj _=>?_⟩;by_cases e:j=n
 ·subst e;simp only[if_true];refine⟨a,λ_ _=>?_⟩;rw[iq (by rw[h.1];omega),h.1];congr 1;omega
 ·simp only[e,if_false];refine⟨(h.2 j (by omega)).1,λk a=>?_⟩;rw[hY (h.lt (by omega) a)];exact(h.2 j (by omega)).2 k a
structure eW(pm:Perm)(p aX aH e9 fE:Nat)(H ab:ae):Prop where
 h:bl pm ab
 next:H.next<=ab.next
 get:∀b,b<H.next->e7 p aX aH b->ab.get b=H.get b
 cf:∀b o,H.get b=some (.cf o)->ab.get b=some (.cf o)
 t:e9=aX∨H.next<=e9
 r:fE=aH∨H.next<=fE
variable{p aX aH cI e9 fE NH NF c3:Nat}{cL dF jS:Value}{deep:Bool}{s:bV}{cs:List a1}
theorem eW.GV(k:eW pm p aX aH e9 fE H ab){b:Nat}(a:b<H.next)(h:e7 p aX aH b):e7 p e9 fE b:=⟨h.1,by have:=k.t;have:=h.2.1;omega,by have:=k.r;have:=h.2.2;omega⟩
theorem eW.trans(k:eW pm p aX aH e9 fE H ab)(l:eW pm p e9 fE NH NF ab bX):eW pm p aX aH NH NF H bX:=
 ⟨l.h,a8 k.next l.next,λb a h=>(l.get b (fK a k.next) (k.GV a h)).trans (k.get b a h),λb o h=>l.cf b o (k.cf b o h),by
  have:=k.t;have:=l.t;have:=k.next;omega,by have:=k.r;have:=l.r;have:=k.next;omega⟩
theorem eW.some(k:eW pm p aX aH e9 fE H ab)(g:bl pm H){b:Nat}{y:bz}(h:e7 p aX aH b)(e:H.get b=Option.some y):ab.get b=Option.some y:=(k.get b (g.lt e) h).trans e
theorem eW.up(k:eW pm p aX aH e9 fE H ab)(b7:p<=aX)(cH:p<=aH)(a:p<H.next):aC pm p H ab:=⟨k.h,k.next,λb _=>k.get b (by omega) ⟨by omega,by omega,by omega⟩,k.cf⟩
end Go.Dam.C
namespace Go.Dam.C
open Go Go.Dam
variable{X:aA}{pm cu:Perm}{H ab bX ai:ae}{n p aX aH cI e9 fE c3:Nat}{cL dF jS:Value}{deep:Bool}{s:bV}{cs:List a1}
theorem eW.perm(k:eW pm p aX aH e9 fE H ab)(b7:cu.num=none)(cH:cu.ah<=ab.next):eW cu p aX aH e9 fE H ab:=⟨k.h.perm b7 cH,k.next,k.get,k.cf,k.t,k.r⟩
theorem fY.k(h:fY H p cL dF deep c3 s aX aH cI)(g:bl pm H)(k:K pm H ab):fY ab p cL dF deep c3 s aX aH cI:=by
 obtain⟨d,c,f,i,j,l,a,m,n,o,r⟩:=h;have e:∀b y,e7 p aX aH b->H.get b=some y->e7 p aX aH b/\ab.get b=some y:=λb y a e=>⟨a,k.some g e⟩;exact⟨d,⟨c.1.imp λ_ q=>k.some g q,c.2.imp λ_ q=>k.some g q⟩,f,i,j,l,k.some g a,m.imp e λL q=>k.some g q,n.imp (λb y a h=>⟨a,(e b y a.f h).2⟩) λL q=>k.some g q,o.imp (λb y a h=>⟨a,(e b y a.f h).2⟩),r.up k⟩
theorem fY.lt(h:fY H p cL dF deep c3 s aX aH cI)(g:bl pm H):p<H.next/\aX<H.next/\aH<H.next:=by
 obtain⟨_,⟨⟨_,a⟩,_,b⟩,_,_,_,_,c,_⟩:=h;exact⟨g.lt c,g.lt a,g.lt b⟩
theorem fY.new(h:fY H p cL dF deep c3 s aX aH cI)(g:bl pm H){aW k w:Nat}{v:Value}{P:Nat->List Value->Prop}(a:ds ab aW v k w P)(b:H.next<=aW):hh ab (e7 p aX aH) v k w P:=by
 obtain⟨_,_,_⟩:=h.lt g;exact a.p.imp (λ_ _ _ e=>⟨⟨by omega,by omega,by omega⟩,e⟩) λ_ _ _ h=>h
theorem gp.set{A:Nat->Prop}{v a:Value}{l:List cz}(h:gp H A aH v l){k:Nat}(r:k<l.length)(x:cz)(m:j8 H A a x.d)(j:∀b,A b->b≠aH):
 ∃L ea,v=.slice (some ⟨aH,0,none⟩) l.length l.length/\H.get aH=some (.cells L (.n 5))/\L.length=l.length*5/\setCells L (k*5) (x.cells a)=some ea/\gp (H.put aH (.cells ea (.n 5))) A aH v (l.set k x):=by
 rcases h with⟨_,e⟩ | ⟨rfl,L,cD,f,dS,gf⟩
 ·grind
 ·have n:=dS.1;have c:k*5+5<=l.length*5:=by omega
  have o:∃ea,setCells L (k*5) (x.cells a)=some ea:=by
   unfold setCells;rw[cJ,hd (show k*5+(x.cells a).length<=L.length by simp[cz.cells];omega)];exact⟨_,rfl⟩
  obtain⟨ea,d⟩:=o;obtain⟨_,_,p⟩:=vf d;have q:(x.cells a).length=5:=rfl;have g:∀b y,A b->H.get b=some y->A b/\(H.put aH (.cells ea (.n 5))).get b=some y:=λb y c e=>⟨c,by rw[a6 (h:=j b c)];exact e⟩;refine⟨L,ea,rfl,cD,n,d,.inr ⟨by simp,ea,bO,λj=>if j=k then x.cells a else f j,⟨by simp;omega,λj c=>?_⟩,λi d=>?_⟩⟩
  ·have c:j<l.length:=by simpa using c
   by_cases e:j=k
   ·grind
   ·simp only[e,if_false];refine⟨(dS.2 j c).1,λb f=>?_⟩;rw[p,q,aw (by omega)];exact(dS.2 j c).2 b f
  ·have b:i<l.length:=by simpa using d
   by_cases e:i=k
   ·subst e;simp only[List.getElem_set_self,if_true];exact⟨a,rfl,m.imp g⟩
   ·simp only[List.getElem_set_ne (Ne.symm e),e,if_false];exact(gf i b).imp λa q=>⟨q.1,q.2.imp g⟩
theorem fY.node(h:fY H p cL dF deep c3 s aX aH cI)(g:bl pm H){k:Nat}(f:k<s.tree.length)(x:cz){b:Value}(i:j8 H (np p aX aH) b x.d):
 ∃L ea d j,H.get p=some (.cells (cL::dF::.bool deep::.int .i64 (c3:Int)::d::.slice (some ⟨aH,0,none⟩) s.tree.length s.tree.length::j) (.t h1))/\H.get aH=some (.cells L (.n 5))/\L.length=s.tree.length*5/\setCells L (k*5) (x.cells b)=some ea/\
  fY (H.put aH (.cells ea (.n 5))) p cL dF deep c3 {s with tree:=s.tree.set k x} aX aH cI/\eW pm p aX aH aX aH H (H.put aH (.cells ea (.n 5))):=by
 obtain⟨l,m,c,_,o,q,a,r,t,v,w⟩:=h;obtain⟨L,ea,rfl,d,j,z,A⟩:=t.set f x i λb a=>a.2.2;have i:p≠aH:=λe=>by grind
 have f:∀b y,e7 p aX aH b->H.get b=some y->e7 p aX aH b/\(H.put aH (.cells ea (.n 5))).get b=some y:=λb y a e=>⟨a,by rw[a6 (h:=a.2.2)];exact e⟩;have u:=aC.put (n:=0) (.refl g) (Nat.zero_le _) d (by simp) (.cells ea (.n 5));refine⟨L,ea,c,_,a,d,j,z,⟨l,⟨?_,_,bO⟩,c,_,o,q,by rw[a6 (h:=i)];simpa using a,r.imp f λ_ e=>?_,by simpa using A,v.imp (λb y a e=>⟨a,(f b y a.f e).2⟩),w.up u⟩,⟨u.h,u.next,λb _ h=>a6 (h:=h.2.2),u.cf,.inl rfl,.inl rfl⟩⟩
 ·by_cases e:aX=aH
  ·simp_all
  ·rw[a6 (h:=e)];exact m.1
 ·by_cases a:aX=aH
  ·grind
  ·rw[a6 (h:=a)];exact e
theorem getD_at{cs:List a1}{i:Nat}(a:i<cs.length):cs[i]? = some (cs.getD i bY):=by
 grind
end Go.Dam.C
namespace Go.Dam.C
open Go Go.Dam
variable{X:aA}{pm cu:Perm}{H ab bX ai:ae}{n:Nat}
theorem acf{aa:ar}{T:bu}(h:c5 aa)(b:hv aa.j (e6 aa) T):bI e0 (aa.P T.v):=by
 have c:=Q' h.e6 b.inv b.sR h.uY.v1 (λk d=>(b.at' k d).bI h.uY) h.uj.p h.uj.le h.uj.z;refine bI.mono (a:=aa.j.n*(hN aa.a.length*jP aa.j.n ((aa.j.n*hN aa.a.length)^aa.j.n) (mm aa.a.length) eC)+jP aa.j.n ((aa.j.n*hN aa.a.length)^aa.j.n) (mm aa.a.length) eC) c ?_;have b:=h.n;have c:hN aa.a.length<=bS 210:=by
  unfold hN;rw[show eC*eC^aa.a.length=eC^(aa.a.length+1) by rw[eB,eZ],zH,fQ];exact hX (by decide) (by omega)
 have d:jP aa.j.n ((aa.j.n*hN aa.a.length)^aa.j.n) (mm aa.a.length) eC<=bS 1660:=a8 (gj _ _) (M7 b);have e:hN aa.a.length*jP aa.j.n ((aa.j.n*hN aa.a.length)^aa.j.n) (mm aa.a.length) eC<=bS 1870:=by
  have:=gk c d;rwa [pn (show 210+1660=1870 by decide)]at this
 have c:aa.j.n*(hN aa.a.length*jP aa.j.n ((aa.j.n*hN aa.a.length)^aa.j.n) (mm aa.a.length) eC)<=6*bS 1870:=gk b e;have b:bS 1660<=bS 1870:=j4 (by decide);have b:e0=bS 30*bS 1870:=(pn (show 30+1870=1900 by decide)).symm;have b:7<=bS 30:=a8 (show 7<=bS 1 by rw[fQ];decide) (j4 (by decide));have c:=fV (bS 1870) b;grind
theorem DO{aa:ar}(h:c5 aa)(d:aa.I=true){a:cW}(ax:fZ aa a)(b7:a.st=1):isNum a.val=true/\a.val.length<=10000:=by
 cases ax with
 | inf _ _ _ _ _=>cases b7
 | cB _ _ _ _ _=>cases b7
 | opt T a _=>
   have b:=a.1.1;have c:∀j,j<aa.a.length->bI e0 (T.v j):=λj a=>me (b.ud h (by omega));have e:il aa T=(List.range aa.a.length).map λj=>bk (T.v j):=rfl;have f:gy aa (il aa T)=some (aa.P T.v):=by
    unfold gy;rw[e,aL (td d c),Ge λj a=>o9 a (c j a)]
   have a:=acf h b;show isNum (tK aa (il aa T))=true/\(tK aa (il aa T)).length<=10000;unfold tK;rw[f];exact⟨a.isNum,a.len⟩
theorem Tc{aa:ar}(h:c5 aa)(b:aa.I=true){a:cW}(ax:fZ aa a)(b7:a.st=1):a.x.length=aa.a.length/\a.x.all isNum=true/\∀s∈a.x,s.length<=10000:=by
 obtain⟨a,_,_⟩:=ax.R0 h b b7;unfold dJ at a;grind
variable{p aX aH cI e9 fE c3:Nat}{cL dF jS:Value}{deep:Bool}{s:bV}{cs:List a1}
end Go.Dam.C
namespace Go.Dam.C
open Go Go.Dam
section
variable{α:Type}{f:α->Option α}
theorem PA{a:α}(h:Ends f a):∃k b,fH f k a=some b/\f b=none:=by
 obtain⟨k,c,d⟩:=h.least
 cases k with
 | zero=>cases c
 | succ j=>
   have c:=d j (by omega)
   cases e:fH f j a with
   | none=>grind
   | some b=>
     refine⟨j,b,e,?_⟩
     cases a:f b with
     | none=>rfl
     | some _=>
       have:=Cm e a;grind
theorem He{G:α->Prop}(c:∀a b,G a->f a=some b->G b):∀{k:Nat} {a b:α},G a->fH f k a=some b->G b
 | 0,a,b,h,e=>by cases e;exact h
 | k+1,a,b,h,e=>by
   rw[fH]at e
   cases b:f a with
   | none=>grind
   | some d=>rw[b]at e;exact He c (c a d h b) e
end
theorem abo{aa:ar}(h:c5 aa)(j:aa.I=true):∃a,fZ aa a:=by
 have R:=Jo h j;obtain⟨_,b,j,c⟩:=PA (R.g1 _ R.s1).2.2;have i:x3 aa b:=He R.cw R.s1 j;unfold jx at c
 cases d:lH aa.j b with
 | some a=>
   rw[d]at c;simp only at c
   cases e:lU aa.j b a (off aa.j b.v (b.rows a)) with
   | some _=>grind
   | none=>exact⟨_,.inf b a i d e⟩
 | none=>
   have c:=R.s2 b i d;obtain⟨_,a,b,e⟩:=PA (R.g2 _ c).2.2;have h:tR aa a:=He R.gg c b;unfold h' at e
   cases f:enters aa.j aa.cs a with
   | none=>exact⟨_,.opt a h f⟩
   | some g=>
     rw[f]at e;simp only at e
     cases k:(dW aa.j a g (eF aa.j aa.cs a g) aa.j.m).e4 with
     | some _=>grind
     | none=>exact⟨_,.cB a g h f k⟩
theorem pg{aa:ar}(h:c5 aa)(b:aa.I=true):fZ aa (eo aa):=by
 obtain⟨_,a⟩:=abo h b;rw[vg a];exact a
structure sI(l:ar)(s:bV):Prop extends lO l s where
 v:∀w,s.val=some w->bo w=true
 t:s.todo.length<=s.tree.length
theorem sI.look{l:ar}{s:bV}(e:jq l)(h:sI l s){k:Nat}{cs:List a1}(b:kC l cs):sI l (s.look l k cs)/\((s.look l k cs).tree.length=s.tree.length/\(s.look l k cs).todo.length=s.todo.length∨(s.look l k cs).tree.length=s.tree.length+2/\(s.look l k cs).todo.length=s.todo.length+2):=by
 have a:∀f,sI l (s.Z k f):=λf=>⟨h.tolO.Z,h.v,by simpa [bV.Z]using h.t⟩;unfold bV.look;by_cases c:(⟨cs,l.rows⟩:ar).I=true
 ·rw[aL c];have g:=b.fM e.s;have i:=pg g c;by_cases d:(eo ⟨cs,l.rows⟩).st=1
  ·rw[aL d];split
   ·exact⟨a _,.inl ⟨by simp[bV.Z],rfl⟩⟩
   ·split
    ·exact⟨⟨⟨(a _).h0⟩,λ_ h=>by cases h;exact jf (DO g c i d).2,(a _).t⟩,.inl ⟨by simp[bV.Z],rfl⟩⟩
    ·rename_i m n;obtain⟨l,j,o⟩:=Fk n;have k:m<cs.length:=by rw[b.len];exact l
     obtain⟨p,q⟩:=JA e.s b c i d k j;refine⟨⟨(a _).tolO.branch b k j p q o,h.v,?_⟩,.inr ⟨by simp[bV.branch,bV.U,bV.Z],by simp[bV.branch,bV.U,bV.Z]⟩⟩;have:=h.t;simp[bV.branch,bV.U,bV.Z];omega
  ·rw[aw d];exact⟨a _,.inl ⟨by simp[bV.Z],rfl⟩⟩
 grind
theorem sI.del{l:ar}{s:bV}(h:sI l s){k:Nat}(a:k<s.todo.length):sI l (s.del k):=⟨h.tolO.del,h.v,by
 have:=h.t;have e:(s.todo.eraseIdx k).length=s.todo.length-1:=by rw[List.length_eraseIdx,aL a]
 show(s.todo.eraseIdx k).length<=s.tree.length;omega⟩
end Go.Dam.C
namespace Go.Dam.C
open Go Go.Dam
variable{X:aA}{pm cu:Perm}{H ab bX ai:ae}{n p aX aH cI e9 fE c3:Nat}{cL dF jS:Value}{deep:Bool}{s ve:bV}{cs:List a1}{l:ar}
theorem ou.form{A:Nat->Prop}{v:Value}{l:List (Nat×List a1)}(h:ou H A aX cI v l):∃a cap,v=.slice a l.length cap:=by
 rcases h with⟨rfl,rfl,_⟩ | ⟨rfl,_⟩
 ·exact⟨_,_,rfl⟩
 ·exact⟨_,_,rfl⟩
theorem gp.form{A:Nat->Prop}{v:Value}{l:List cz}(h:gp H A aH v l):∃a,v=.slice a l.length l.length:=by
 rcases h with⟨rfl,rfl⟩ | ⟨rfl,_⟩
 ·exact⟨_,rfl⟩
 ·exact⟨_,rfl⟩
end Go.Dam.C
namespace Go.Dam.C
open Go Go.Dam
variable{X:aA}{pm cu:Perm}{H ab bX ai:ae}{n:Nat}{deep:Bool}{l:ar}
def py:bV:=⟨[],[],⟨2,[],[],[],[]⟩,none⟩
def lo(k:Int):Nat:=if 0<k then min 300 k.toNat else 300
theorem QD{k:Int}:lo k<=300:=by unfold lo;split<;>omega
theorem gp.ext{A:Nat->Prop}{a:Nat}{v:Value}{l:List cz}(h:gp H A a v l)(e:Ext H ab):gp ab A a v l:=h.imp (λb y a q=>⟨a,e b y q⟩) λ_ q=>e _ _ q
theorem gp.put{aW a c:Nat}{v:Value}{l:List cz}(h:gp H (λb=>aW<=b) a v l)(d:c<aW)(d:aW<=a)(x:bz):gp (H.put c x) (λb=>aW<=b) a v l:=
 h.imp (λb _ d q=>⟨d,by rw[a6];exact q⟩) λ_ q=>by rw[a6];exact q
theorem gp.mono{aW a c:Nat}{v:Value}{l:List cz}(h:gp H (λb=>aW<=b) c v l)(d:a<=aW):gp H (λb=>a<=b) c v l:=h.imp (λb _ _ q=>⟨by omega,q⟩) λ_ q=>q
end Go.Dam.C
namespace Go.Dam.C
open Go Go.Dam
theorem U8{q:Rat}{N:Nat}(h:q.num.natAbs<=N):-((N:Int):Rat)<=q/\q<=((N:Int):Rat):=by
 have a:(N:Int)*1<=N*(q.den:Int):=Int.mul_le_mul_of_nonneg_left (by have:=q.den_pos;omega) (by omega);constructor
 ·rw[<-Rat.intCast_neg,Rat.le_iff,Rat.num_intCast,Rat.den_intCast,Int.neg_mul];omega
 ·rw[Rat.le_iff,Rat.num_intCast,Rat.den_intCast];omega
theorem ku.short{s:List UInt8}(aP:s≠[])(h:s.length<=20):ku s:=by
 have a:=U8 (tv h).1;have e:(((10^20:Nat):Nat):Int)=(10:Int)^20:=by decide +kernel
 rw[e]at a;refine⟨aP,by omega,?_,?_⟩
 ·rw[x0];exact a.1
 ·rw[x0];exact a.2
def eE(t:Bool)(c:a1):a1:=if t then{c with cost:=[48]} else c
theorem oB{t:Bool}{c:a1}:(eE t c).low=c.low:=by cases t<;>rfl
theorem oC{t:Bool}{c:a1}:(eE t c).up=c.up:=by cases t<;>rfl
theorem vY{t:Bool}{c:a1}:(eE t c).int=c.int:=by cases t<;>rfl
noncomputable def cB(l:ar):Bool:=decide ((eo l).st=3)
noncomputable def db(l:ar):ar:=⟨l.a.map (eE (cB l)),l.rows⟩
def nV(l:ar):Bool:=l.a.any λc=>c.int&&(c.low.isEmpty||c.up.isEmpty)
theorem p1{l:ar}:(db l).a.length=l.a.length:=by simp[db]
theorem wJ{l:ar}{i:Nat}(a:i<l.a.length):(db l).ad i=eE (cB l) (l.ad i):=by
 rw[<-BK,<-BK];simp only[db,e5,jd,en a,hK,je]
structure nr(l:ar):Prop where
 s:c5 l
 b:∀c∈l.a,c.low.length<=20/\c.up.length<=20
 k:∀i,i<l.rows.length->(l.row i).G.length<=1000
theorem nr.ok{l:ar}(h:nr l)(d:nV l=false):jq (db l):=by
 refine⟨⟨by rw[p1];exact h.s.n,h.s.m,λc a=>?_,h.s.r⟩,λ_ b e=>?_⟩
 ·obtain⟨c,f,rfl⟩:=gl.1 a;obtain⟨g,i,_⟩:=h.s.c c f;refine⟨by rw[oB];exact g,by rw[oC];exact i,?_⟩;unfold eE;grind
 ·rw[p1]at b;rw[wJ b]at e|-;rw[vY]at e;rw[oB,oC];have a:=cX (ar.kc b);have c:=h.b _ a;have b:=List.any_eq_false.1 d _ a;simp[e]at b;exact⟨.short b.1 c.1,.short b.2 c.2⟩
inductive iy(l:ar)(deep:Bool)(k:Int):cW->List cz->Int->Prop
 | form:l.I=false->iy l deep k ⟨0,[],[],[],[]⟩ [] 1
 | wide:l.I=true->nV l=true->iy l deep k ⟨0,[],[],[],[]⟩ [] 10
 | jj (iN:bV):l.I=true->nV l=false->hz (db l) deep (lo k) (py.U (db l).a) iN false->iy l deep k ⟨4,[],[],[],[]⟩ [] 0
 | cB (iN:bV):l.I=true->nV l=false->hz (db l) deep (lo k) (py.U (db l).a) iN true->cB l=true->iN.L.st=1->iy l deep k ⟨3,[],iN.L.x,[],(eo l).r⟩ [] 0
 | done (iN:bV):l.I=true->nV l=false->hz (db l) deep (lo k) (py.U (db l).a) iN true->¬(C.cB l=true/\iN.L.st=1)->iy l deep k ⟨iN.L.st,iN.L.val,iN.L.x,[],[]⟩ iN.tree 0
variable{X:aA}{pm cu:Perm}{H ab bX ai:ae}{n:Nat}
variable{deep:Bool}{l:ar}
end Go.Dam.C
namespace Go.Dam.C
open Go Go.Dam
variable{deep:Bool}{l:ar}
theorem hz.up{l:ar}{m n:Nat}{s a b:bV}{x:Bool}(c:m<=n)(h:hz l deep m s a true)(g:hz l deep n s b x):a=b/\x=true:=by
 obtain⟨_,_⟩:=(h.more c rfl).Wc g;grind
theorem iy.mono{k dy:Int}{b c:cW}{d e:List cz}{f g:Int}(h:lo k<=lo dy)(i:iy l deep k b d f)(a:iy l deep dy c e g):f=g/\(b.st=4∨b=c/\d=e):=by
 cases i with
 | form _=>
   cases a with
   | form _=>grind
   | wide _ _=>grind
   | jj _ _ _ _=>grind
   | cB _ _ _ _ _ _=>grind
   | done _ _ _ _ _=>grind
 | wide _ _=>
   cases a with
   | form _=>grind
   | wide _ _=>grind
   | jj _ _ _ _=>grind
   | cB _ _ _ _ _ _=>grind
   | done _ _ _ _ _=>grind
 | jj _ _ _ _=>
   refine⟨?_,.inl rfl⟩
   cases a with
   | form _=>grind
   | wide _ _=>grind
   | jj _ _ _ _=>rfl
   | cB _ _ _ _ _ _=>rfl
   | done _ _ _ _ _=>rfl
 | cB _ _ _ b _ _=>
   cases a with
   | form _=>grind
   | wide _ _=>grind
   | jj _ _ _ c=>obtain⟨_,f⟩:=b.up h c;cases f
   | cB _ _ _ c _ _=>obtain⟨rfl,_⟩:=b.up h c;grind
   | done _ _ _ c _=>obtain⟨rfl,_⟩:=b.up h c;grind
 | done _ _ _ b _=>
   cases a with
   | form _=>grind
   | wide _ _=>grind
   | jj _ _ _ c=>obtain⟨_,f⟩:=b.up h c;cases f
   | cB _ _ _ c _ _=>obtain⟨rfl,_⟩:=b.up h c;grind
   | done _ _ _ c _=>obtain⟨rfl,_⟩:=b.up h c;grind
end Go.Dam.C
namespace Go.Dam.C
theorem s3{s:List UInt8}(h:isNum s=true):bk (rd s)=s:=by
 unfold isNum at h;unfold rd
 cases e:gq s with
 | none=>grind
 | some _=>
   unfold gq lh at e;grind
theorem nL{s:List UInt8}(h:isNum s=true):s≠[]:=by
 rintro rfl;simp[isNum,gq,lh,ik,kH,ie]at h
theorem Ja{s:List UInt8}(h:isNum s=false):rd s=0:=by
 unfold isNum at h;unfold rd;simp_all
theorem aat(b:Rat):rd (bk b)=b∨rd (bk b)=0:=by
 cases e:isNum (bk b) with
 | true=>exact .inl (xb (s3 e))
 | false=>exact .inr (Ja e)
theorem aad{b:Rat}(h:0<rd (bk b)):0<b:=by
 rcases aat b with e | e
 ·rwa [e]at h
 grind
def lQ(c:a1)(v:Rat):a1:=if isNum c.up=true/\rd c.up<=v then c else{c with up:=bk v}
def lP(c:a1)(v:Rat):a1:=if isNum c.low=true/\v<=rd c.low then c else{c with low:=bk v}
def f'(cs:List a1)(i:Nat)(v:Rat):List a1:=cs.set i (lQ (cs.getD i bY) v)
def gG(cs:List a1)(i:Nat)(v:Rat):List a1:=cs.set i (lP (cs.getD i bY) v)
def ju(c:a1):Bool:=isNum c.low&&(isNum c.up&&decide (rd c.up<rd c.low))
def k1(rows:List b9)(a:Rat)(all:Bool)(cs:List a1)(d:List (List UInt8)):Bool:=
 cs.any ju||(((eX ⟨cs,rows⟩ d false).isSome&&decide (0<rd (fR (eX ⟨cs,rows⟩ d false))))||(!all&&((eX ⟨cs,rows⟩ d true).isSome&&decide (a<=rd (fR (eX ⟨cs,rows⟩ d true))))))
structure sv(tree:List cz)(k:Nat)(cs:List a1)(s:List Bool)(x:cz):Prop where
 n:isNum x.at'=true
 w:(rd x.at').den=1
 c:x.ad<(cs.length:Int)
 i:(cs.getD x.ad.toNat bY).int=true
 XI:(k:Int)<x.l
 XM:x.l<(tree.length:Int)
 Ya:s.getD x.l.toNat false=false
 l7:(k:Int)<x.r
 l8:x.r<(tree.length:Int)
 aap:(s.set x.l.toNat true).getD x.r.toNat false=false
inductive h6(rows:List b9)(tree:List cz)(kL:Rat)(all:Bool):Nat->List a1->List Bool->Bool->List Bool->Prop
 | leaf (k:Nat) (cs:List a1) (s:List Bool) (x:cz):tree[k]? = some x->x.ad<0->h6 rows tree kL all k cs s (k1 rows kL all cs x.d) (s.set k true)
 | bad (k:Nat) (cs:List a1) (s jJ:List Bool) (x:cz):tree[k]? = some x->0<=x.ad->¬sv tree k cs (s.set k true) x->h6 rows tree kL all k cs s false jJ
 | left (k:Nat) (cs:List a1) (s Ah:List Bool) (x:cz):tree[k]? = some x->0<=x.ad->sv tree k cs (s.set k true) x->h6 rows tree kL all x.l.toNat (f' cs x.ad.toNat (rd x.at')) (((s.set k true).set x.l.toNat true).set x.r.toNat true) false Ah->h6 rows tree kL all k cs s false Ah
 | both (k:Nat) (cs:List a1) (s Ah SC:List Bool) (b:Bool) (x:cz):tree[k]? = some x->0<=x.ad->sv tree k cs (s.set k true) x->h6 rows tree kL all x.l.toNat (f' cs x.ad.toNat (rd x.at')) (((s.set k true).set x.l.toNat true).set x.r.toNat true) true Ah->h6 rows tree kL all x.r.toNat (gG cs x.ad.toNat (rd x.at'+1)) Ah b SC->h6 rows tree kL all k cs s b SC
structure pK(rows:List b9)(cs:List a1)(x:Nat->Rat):Prop where
 f:h4 ⟨cs,rows⟩ x
 w:∀i,i<cs.length->(cs.getD i bY).int=true->(x i).den=1
structure tT(l:ar)(cs:List a1):Prop where
 len:cs.length=l.a.length
 c:∀i,i<cs.length->(cs.getD i bY).cost=(l.ad i).cost/\(cs.getD i bY).int=(l.ad i).int
def kB(l:ar)(cs:List a1)(a:Rat)(all:Bool):Prop:=∀x,pK l.rows cs x->all=false/\a<=l.P x
theorem SQ{l:ar}{cs:List a1}(h:tT l cs)(x:Nat->Rat):(⟨cs,l.rows⟩:ar).P x=l.P x:=by
 show aS (λi=>rd (cs.getD i bY).cost*x i) cs.length=aS (λi=>rd (l.ad i).cost*x i) l.a.length;rw[<-h.len];exact c9 λi a=>by rw[(h.c i a).1]
theorem Bm{aa:ar}{a:List (List UInt8)}{bQ:Bool}{b:Rat}(h:eX aa a bQ=some b):aa.I=true:=by
 unfold eX at h;split at h
 ·exact CN (by assumption)
 ·cases h
theorem Of{l:ar}{cs:List a1}{a:Rat}{all:Bool}(h:cs.any ju=true):kB l cs a all:=by
 intro _ b;obtain⟨_,c,h⟩:=List.any_eq_true.1 h;obtain⟨i,e,rfl⟩:=ux (d:=bY) c;unfold ju at h;simp only[bK,cP]at h;obtain⟨a,c,f⟩:=h;obtain⟨g,j⟩:=b.f.c i e;exact absurd f (fy.2 (Rat.le_trans (g (nL a)) (j (nL c))))
theorem QV{l:ar}{cs:List a1}{a:Rat}{all:Bool}{d:List (List UInt8)}(b7:(eX ⟨cs,l.rows⟩ d false).isSome=true)(cH:0<rd (fR (eX ⟨cs,l.rows⟩ d false))):kB l cs a all:=by
 intro _ b;obtain⟨_,a⟩:=n0.1 b7;rw[a]at cH;have:=Az b.f (vQ (Bm a) a);simp only[kl,if_false]at this;exact absurd (aad cH) (fy.2 this)
theorem Qc{l:ar}{cs:List a1}{e:Rat}{all:Bool}{d:List (List UInt8)}(ax:tT l cs)(f:∀b,eX ⟨cs,l.rows⟩ d true=some b->rd (bk b)=b)(h:k1 l.rows e all cs d=true):kB l cs e all:=by
 unfold k1 at h;rw[jG,jG]at h
 rcases h with h | h | h
 ·exact Of h
 ·simp only[bK,cP]at h;exact QV h.1 h.2
 ·intro _ d;simp only[bK,cP,ir]at h;obtain⟨_,g,a⟩:=h;obtain⟨b,c⟩:=n0.1 g;rw[c]at a;have a:e<=rd (bk b):=a;rw[f b c]at a;have:=Az d.f (vQ (Bm c) c);simp only[if_true]at this;rw[SQ ax]at this;grind
theorem Ea{rows:List b9}{cs:List a1}{x:Nat->Rat}{i:Nat}{c:a1}(d:i<cs.length)(h:pK rows cs x)(f:c.int=(cs.getD i bY).int)(a:c.low≠[]->rd c.low<=x i)(a:c.up≠[]->x i<=rd c.up):pK rows (cs.set i c) x:=by
 refine⟨⟨λj a=>?_,λj a=>?_⟩,λj a b=>?_⟩
 ·have a:j<cs.length:=by simpa using a
  show(((cs.set i c).getD j bY).low≠[]->rd ((cs.set i c).getD j bY).low<=x j)/\(((cs.set i c).getD j bY).up≠[]->x j<=rd ((cs.set i c).getD j bY).up);rw[pX d];by_cases e:j=i
  ·grind
  ·rw[aw e];exact h.f.c j a
 ·have e:gz (⟨cs.set i c,rows⟩:ar) x j=gz (⟨cs,rows⟩:ar) x j:=by
   show aS (λq=>hs ((⟨cs,rows⟩:ar).row j).G q*x q) (cs.set i c).length=_;rw[tl];rfl
  rw[e];exact h.f.r j a
 ·have c:j<cs.length:=by simpa using a
  rw[pX d]at b;by_cases e:j=i
  ·subst e;rw[aL rfl,f]at b;exact h.w j c b
  ·rw[aw e]at b;exact h.w j c b
theorem Gy{q:Rat}(h:q.den=1):∃z:Int,q=(z:Rat):=⟨q.num,by
 have:=s6 q;rw[h]at this;grind⟩
theorem Px{p q:Rat}(b:p.den=1)(c:q.den=1)(h:p<q):p+1<=q:=by
 obtain⟨a,rfl⟩:=Gy b;obtain⟨_,rfl⟩:=Gy c;have h:=Rat.intCast_lt_intCast.1 h;have e:((a:Int):Rat)+1=((a+1:Int):Rat):=by simp
 rw[e];exact Rat.intCast_le_intCast.2 (by omega)
theorem tT.set{l:ar}{cs:List a1}(h:tT l cs){i:Nat}{c:a1}(b:i<cs.length)(b7:c.cost=(cs.getD i bY).cost)(cH:c.int=(cs.getD i bY).int):tT l (cs.set i c):=by
 refine⟨by simp[h.len],λj c=>?_⟩;have a:j<cs.length:=by simpa using c
 rw[pX b];by_cases e:j=i
 ·subst e;rw[aL rfl,b7,cH];exact h.c j a
 ·rw[aw e];exact h.c j a
def oM(l:ar)(r:List (List UInt8)):Bool:=(List.range l.a.length).all λi=>!((l.ad i).int&&(decide (i<r.length)&&decide (r.getD i []≠[48])))
def j5(l:ar)(a:List cz)(c:List UInt8)(all:Bool)(b:Bool):Prop:=
 if l.I=true/\0<a.length/\a.length<=601/\(isNum c=true∨all=true) then
  ∃t d,h6 l.rows a (rd c) all 0 l.a (List.replicate a.length false) t d/\b=(t&&!d.contains false)
 else b=false
def iU(l:ar)(a:cW)(c:List cz)(b:Bool):Prop:=
 if l.I=true/\a.d.length=0 then
  if a.st=1 then
   if(gy l a.x).isSome=true/\fR (gy l a.x)=a.val/\fU l a.x=true/\jm l a.x=true/\a.r.length=0 then j5 l c a.val false b else b=false
  else if a.st=2 then
   if a.val=[]/\a.x.length+a.r.length=0 then j5 l c [] true b else b=false
  else if a.st=3 then b=(oM l a.r&&(decide (a.val=[])&&(fU l a.x&&(jm l a.x&&(iL l a.r&&decide (c.length=0))))))
  else b=false
 else b=false
inductive oe(l:ar)(a:cW):Prop
 | opt (x:Nat->Rat):a.st=1->pK l.rows l.a x->a.val=bk (l.P x)->kB l l.a (l.P x) false->oe l a
 | inf:a.st=2->a.val=[]->kB l l.a 0 true->oe l a
 | cB (x r:Nat->Rat):a.st=3->a.val=[]->pK l.rows l.a x->om l r->(∀i,i<l.a.length->(l.ad i).int=true->r i=0)->oe l a
theorem aaN{a:Int}{s b q k:Rat}(h:xy a s b)(g:xy a q 0)(c:0<=k):xy a (s+k*q) b:=by
 obtain⟨a,d,_⟩:=h;obtain⟨f,i,_⟩:=g;refine⟨λe=>?_,λe=>?_,λe _=>?_⟩
 ·have g:=a e;have b:=fW c (show 0<=-q by have:=f e;grind);grind
 ·have a:=d e;have b:=fW c (i e);grind
 grind
theorem h4.R3{aa:ar}{x r:Nat->Rat}(h:h4 aa x)(g:om aa r){k:Rat}(a:0<=k):h4 aa λi=>x i+k*r i:=by
 refine⟨λj b=>?_,λi c=>?_⟩
 ·obtain⟨d,f⟩:=h.c j b;obtain⟨i,k⟩:=g.c j b;refine⟨λe=>?_,λe=>?_⟩
  ·have b:=d e;have b:=fW a (i e);grind
  ·have b:=f e;have b:=fW a (show 0<=-r j by have:=k e;grind);grind
 ·have e:gz aa (λi=>x i+k*r i) i=gz aa x i+k*gz aa r i:=by
   unfold gz;rw[<-fP,<-kr];exact c9 λj _=>by grind
  rw[e];exact aaN (h.r i c) (g.r i c) a
theorem oe.wS{l:ar}{x r:Nat->Rat}(c:pK l.rows l.a x)(d:om l r)(aP:∀i,i<l.a.length->(l.ad i).int=true->r i=0){a:Rat}{all:Bool}(h:kB l l.a a all):False:=by
 have b:=d.n;have e:0 < -l.P r:=by grind
 have f:l.P r≠0:=by grind
 by_cases f:a<=l.P x-1
 ·have f:0<=(l.P x-a+1)/(-l.P r):=by
   rw[Rat.div_def];exact fW (by grind) (iJ (Rat.inv_pos.2 e))
  have g:pK l.rows l.a λi=>x i+(l.P x-a+1)/(-l.P r)*r i:=by
   refine⟨c.f.R3 d f,λi f b=>?_⟩;show(x i+(l.P x-a+1)/(-l.P r)*r i).den=1;rw[aP i f b,mX,lB];exact c.w i f b
  have f:=(h _ g).2;have g:l.P (λi=>x i+(l.P x-a+1)/(-l.P r)*r i)=l.P x+(l.P x-a+1)/(-l.P r)*l.P r:=by
   unfold ar.P;rw[<-fP,<-kr];exact c9 λ_ _=>by grind
  rw[g]at f;have f:(l.P x-a+1)/(-l.P r)*l.P r=-(l.P x-a+1):=by grind
  grind
 ·have a:0<=2/(-l.P r):=by
   rw[Rat.div_def];exact fW (by decide) (iJ (Rat.inv_pos.2 e))
  have e:pK l.rows l.a λi=>x i+2/(-l.P r)*r i:=by
   refine⟨c.f.R3 d a,λi a b=>?_⟩;show(x i+2/(-l.P r)*r i).den=1;rw[aP i a b,mX,lB];exact c.w i a b
  have a:=(h _ e).2;have e:l.P (λi=>x i+2/(-l.P r)*r i)=l.P x+2/(-l.P r)*l.P r:=by
   unfold ar.P;rw[<-fP,<-kr];exact c9 λ_ _=>by grind
  rw[e]at a;have a:2/(-l.P r)*l.P r=-2:=by grind
  grind
theorem JX{l:ar}{xs:List (List UInt8)}(h:jm l xs=true):∀i,i<l.a.length->(l.ad i).int=true->(bU xs i).den=1:=by
 unfold jm at h;rw[bK]at h;intro i a _;have:=AA.1 h.2 i a;grind
theorem JU{l:ar}{xs:List (List UInt8)}{v:Rat}(h:gy l xs=some v):v=l.P (bU xs):=by
 unfold gy at h;grind
theorem CM{l:ar}{xs:List (List UInt8)}{m:Nat}(h:dJ l xs m=true):xs.length=m/\xs.all isNum=true:=by
 unfold dJ at h;grind
inductive cQ
 | ag (k:Nat)
 | aH (k:Nat) (a b:cQ)
def cQ.rt:cQ->Nat
 | .ag k=>k
 | .aH k _ _=>k
def cQ.B:cQ->List Nat
 | .ag k=>[k]
 | .aH k a b=>k::(a.B++b.B)
def cQ.gQ:cQ->List Nat
 | .ag k=>[k]
 | .aH _ a b=>a.gQ++b.gQ
def cQ.jK(k n:Nat):cQ->cQ
 | .ag j=>if j=k then .aH k (.ag n) (.ag (n+1)) else .ag j
 | .aH j a b=>.aH j (a.jK k n) (b.jK k n)
theorem cQ.Ae{k n:Nat}:∀{t:cQ},(t.jK k n).rt=t.rt
 | .ag _=>by
   unfold cQ.jK;split
   ·rename_i e;exact e.symm
   ·rfl
 | .aH _ _ _=>rfl
theorem cQ.nb:∀{t:cQ},t.rt∈t.B
 | .ag _=>.head _
 | .aH _ _ _=>.head _
theorem cQ.wG:∀{t:cQ} {k:Nat},k∈t.gQ->k∈t.B
 | .ag _,k,h=>h
 | .aH _ _ _,k,h=>by
   rcases fc.1 h with h | h
   ·exact .tail _ (fc.2 (.inl (cQ.wG h)))
   ·exact .tail _ (fc.2 (.inr (cQ.wG h)))
theorem cQ.DP{k n:Nat}:∀{t:cQ},k∉t.gQ->t.jK k n=t
 | .ag _,h=>by
   unfold cQ.jK;rw[aw];rintro rfl;exact h (.head _)
 | .aH _ a b,h=>by
   have c:k∉a.gQ:=λe=>h (fc.2 (.inl e));have a:k∉b.gQ:=λe=>h (fc.2 (.inr e));rw[cQ.jK,cQ.DP c,cQ.DP a]
theorem cQ.Hg{k n:Nat}:∀{t:cQ},t.B.Nodup->k∈t.gQ->(t.jK k n).B.Perm (n::(n+1)::t.B)
 | .ag j,_,h=>by
   obtain rfl:k=j:=mV.1 h;rw[cQ.jK,aL rfl];show[k,n,n+1].Perm [n,n+1,k];exact(@List.perm_append_comm _ [k] [n,n+1])
 | .aH j a b,e,h=>by
   have f:(j::(a.B++b.B)).Nodup:=e;obtain⟨_,e⟩:=List.nodup_cons.1 f;obtain⟨g,i,d⟩:=List.nodup_append.1 e;rw[cQ.jK];show(j::((a.jK k n).B++(b.jK k n).B)).Perm (n::(n+1)::j::(a.B++b.B));have c:((a.jK k n).B++(b.jK k n).B).Perm (n::(n+1)::(a.B++b.B))->(j::((a.jK k n).B++(b.jK k n).B)).Perm (n::(n+1)::j::(a.B++b.B)):=λp=>
    (p.cons j).trans (@List.perm_append_comm _ [j] [n,n+1] |>.append_right _)
   rcases fc.1 h with h | h
   ·have l:k∉b.gQ:=λe=>d _ (cQ.wG h) _ (cQ.wG e) rfl;rw[cQ.DP l]at c|-;exact c ((cQ.Hg g h).append_right b.B)
   ·have l:k∉a.gQ:=λe=>d _ (cQ.wG e) _ (cQ.wG h) rfl;rw[cQ.DP l]at c|-;exact c (((cQ.Hg i h).append_left a.B).trans (by
     have:=@List.perm_append_comm _ a.B [n,n+1];have:=this.append_right b.B;simpa using this))
structure kv(c:a1)(v:Rat):Prop where
 i:c.int=true
 cw:isNum c.low=true
 gg:isNum c.up=true
 ah:rd c.low<=v
 az:v<=rd c.up
 d:v.den≠1
 c0:-ff<=v
 b':v<=ff
def ec(v:Rat):Rat:=((v.floor:Int):Rat)
theorem Hc{z:Int}(aP:z.natAbs<=10^20):bI e0 (z:Rat):=by
 refine⟨?_,?_⟩
 ·rw[Rat.num_intCast];exact a8 aP (by rw[<-fQ];exact j4 (by decide))
 ·rw[Rat.den_intCast];exact As 1900
theorem WD{v:Rat}(a:-ff<=v)(b:v<=ff):v.floor.natAbs<=10^20:=by
 refine ze ?_ (Rat.le_trans (Rat.floor_le v) b);rw[vs]at a|-;exact Rat.intCast_le_intCast.2 (Rat.le_floor_iff.2 a)
theorem WC{v:Rat}(a:-ff<=v)(b:v<=ff)(d:v.den≠1):(v.floor+1).natAbs<=10^20:=by
 refine ze ?_ ?_
 ·rw[vs]at a|-;have:=Rat.le_floor_iff.2 a;exact Rat.intCast_le_intCast.2 (by omega)
 ·rw[x0]at b|-;have a:((v.floor:Int):Rat)<((10^20:Int):Rat):=(by have:=Cc d;grind);have a:=Rat.intCast_lt_intCast.1 a;exact Rat.intCast_le_intCast.2 (by omega)
theorem O6(v:Rat):ec v+1=((v.floor+1:Int):Rat):=by simp[ec]
theorem kv.bI{c:a1}{v:Rat}(h:kv c v):bI e0 (ec v)/\C.bI e0 (ec v+1):=⟨Hc (WD h.c0 h.b'),by rw[O6];exact Hc (WC h.c0 h.b' h.d)⟩
theorem kv.Vf{c:a1}{v:Rat}(h:kv c v):lQ c (ec v)={c with up:=bk (ec v)}:=by
 unfold lQ;rw[aw];rintro⟨_,_⟩;have a:ec v<v:=Cc h.d;have:=h.az;grind
theorem Qm(v:Rat):v<ec v+1:=by
 rw[O6];have:=Rat.lt_floor (x:=v);simp at this|-;grind
theorem kv.UQ{c:a1}{v:Rat}(h:kv c v):lP c (ec v+1)={c with low:=bk (ec v+1)}:=by
 unfold lP;rw[aw];rintro⟨_,_⟩;have a:=Qm v;have:=h.ah;grind
theorem kv.f'{cs:List a1}{i:Nat}{v:Rat}(h:kv (cs.getD i bY) v):C.f' cs i (ec v)=h2 cs i (bk (ec v)):=by
 unfold C.f' h2;rw[h.Vf]
theorem kv.gG{cs:List a1}{i:Nat}{v:Rat}(h:kv (cs.getD i bY) v):C.gG cs i (ec v+1)=ig cs i (bk (ec v+1)):=by
 unfold C.gG ig;rw[h.UQ]
def ee(a:List cz)(P:Nat->List a1->List (List UInt8)->Prop):cQ->List a1->Prop
 | .ag k,b=>∃x,a[k]? = some x/\x.ad<0/\P k b x.d
 | .aH k c d,b=>∃x i v,a[k]? = some x/\x.ad=((i:Nat):Int)/\x.at'=bk (ec v)/\x.l=(c.rt:Int)/\x.r=(d.rt:Int)/\k<c.rt/\k<d.rt/\i<b.length/\kv (b.getD i bY) v/\ee a P c (h2 b i (bk (ec v)))/\ee a P d (ig b i (bk (ec v+1)))
section
variable{tree tJ:List cz}{P qW:Nat->List a1->List (List UInt8)->Prop}
theorem ee.JQ{k:Nat}{e:cz}(a:tree[k]? = some e)(h:e.ad<0)(b:∀j,j≠k->∀y,tree[j]? = some y->tJ[j]? = some y)(f:∀j cs d,j≠k->j<tree.length->P j cs d->qW j cs d)(g:∀cs,P k cs e.d->∃x,tJ[k]? = some x/\x.ad<0/\qW k cs x.d):∀{t:cQ} {cs:List a1},ee tree P t cs->ee tJ qW t cs
 | .ag j,cs,l=>by
   obtain⟨x,c,m,i⟩:=l;by_cases d:j=k
   ·subst d;rw[a]at c;cases c;exact g cs i
   ·exact⟨x,b j d _ c,m,f j cs _ d (hZ.1 c).1 i⟩
 | .aH j _ _,cs,d=>by
   obtain⟨x,i,v,c,l,m,n,o,p,q,r,s,t,u⟩:=d;have w:j≠k:=by
    rintro rfl;rw[a]at c;cases c;omega
   exact⟨x,i,v,b j w _ c,l,m,n,o,p,q,r,s,ee.JQ a h b f g t,ee.JQ a h b f g u⟩
theorem ee.split{k n:Nat}{f a y z:cz}(b:tree[k]? = some f)(x:f.ad<0)(c:∀j,j≠k->∀y,tree[j]? = some y->tJ[j]? = some y)(g:∀j cs d,j≠k->j<tree.length->P j cs d->qW j cs d)(e:k<n){i:Nat}{v:Rat}(h:tJ[k]? = some a)(l:a.ad=(i:Int))(m:a.at'=bk (ec v))(o:a.l=(n:Int))(p:a.r=((n+1:Nat):Int))(q:tJ[n]? = some y)(r:y.ad<0)(s:tJ[n+1]? = some z)(u:z.ad<0)
 (w:∀cs,P k cs f.d->i<cs.length/\kv (cs.getD i bY) v/\qW n (h2 cs i (bk (ec v))) y.d/\qW (n+1) (ig cs i (bk (ec v+1))) z.d):∀{t:cQ} {cs:List a1},ee tree P t cs->ee tJ qW (t.jK k n) cs
 | .ag j,cs,n=>by
   obtain⟨t,d,B,k⟩:=n;unfold cQ.jK;split
   ·rename_i C;subst C;rw[b]at d;cases d;obtain⟨j,D,E,F⟩:=w cs k;exact⟨a,i,v,h,l,m,o,p,e,Nat.lt_succ_of_lt e,j,D,⟨y,q,r,E⟩,⟨z,s,u,F⟩⟩
   ·rename_i A;exact⟨t,c j A _ d,B,g j cs _ A (hZ.1 d).1 k⟩
 | .aH j _ _,cs,i=>by
   obtain⟨n,t,v,d,y,z,B,D,E,F,G,H,I,J⟩:=i;have K:j≠k:=by
    rintro rfl;rw[b]at d;cases d;omega
   refine⟨n,t,v,c j K _ d,y,z,?_,?_,?_,?_,G,H,ee.split b x c g e h l m o p q r s u w I,ee.split b x c g e h l m o p q r s u w J⟩
   ·rw[cQ.Ae];exact B
   ·rw[cQ.Ae];exact D
   ·rw[cQ.Ae];exact E
   ·rw[cQ.Ae];exact F
theorem ee.leaf{k:Nat}{b:cz}(a:tree[k]? = some b)(c:b.ad<0):∀{t:cQ} {cs:List a1},ee tree P t cs->k∈t.B->k∈t.gQ
 | .ag _,cs,_,d=>d
 | .aH j _ _,cs,h,e=>by
   obtain⟨_,_,_,d,_,_,_,_,_,_,_,_,f,g⟩:=h;have i:k≠j:=by
    rintro rfl;rw[a]at d;cases d;omega
   rcases hH.1 e with h | h
   ·exact absurd h i
   ·rcases fc.1 h with h | h
    ·exact fc.2 (.inl (ee.leaf a c f h))
    ·exact fc.2 (.inr (ee.leaf a c g h))
theorem ee.imp(a:∀k cs d,P k cs d->qW k cs d):∀{t:cQ} {cs:List a1},ee tree P t cs->ee tree qW t cs
 | .ag _,cs,h=>by
   obtain⟨x,b,c,d⟩:=h;exact⟨x,b,c,a _ _ _ d⟩
 | .aH _ _ _,cs,h=>by
   obtain⟨x,i,v,b,c,d,e,f,g,j,k,l,m,n⟩:=h;exact⟨x,i,v,b,c,d,e,f,g,j,k,l,m.imp a,n.imp a⟩
variable{rows:List b9}{kL:Rat}{all:Bool}
theorem uy{s:List Bool}{i j:Nat} (a:i<s.length:=by omega):(s.set i true).getD j false=if j=i then true else s.getD j false:=by
 simp only[e5];by_cases e:j=i
 ·subst e;simp[a]
 ·rw[o2 (Ne.symm e),aw e]
theorem ee.node:∀{t:cQ} {cs:List a1},ee tree (λ_ cs d=>k1 rows kL all cs d=true) t cs->t.B.Nodup->∀{s:List Bool},s.length=tree.length->(∀j∈t.B,j<tree.length)->(∀j∈t.B,j≠t.rt->s.getD j false=false)->∀{b:Bool} {f:List Bool},h6 rows tree kL all t.rt cs s b f->b=true/\f.length=tree.length/\∀j,f.getD j false=true↔(s.getD j false=true∨j∈t.B)
 | .ag k,cs,h,_,s,c,d,_,b,f,e=>by
   obtain⟨x,b,_,g⟩:=h;have i:k<tree.length:=d k (.head _);have a:tree[(cQ.ag k).rt]? = some x:=b
   cases e with
   | leaf _ _ _ _ h _=>
     rw[a]at h;cases h;refine⟨g,by simp[c],λj=>?_⟩;show(s.set k true).getD j false=true↔_∨j∈[k];rw[uy,mV];by_cases e:j=k<;>simp[e]
   | bad _ _ _ _ _ h _=>rw[a]at h;cases h;omega
   | left _ _ _ _ _ h _=>rw[a]at h;cases h;omega
   | both _ _ _ _ _ _ _ h _=>rw[a]at h;cases h;omega
 | .aH k a b,cs,h,l,s,p,g,A,t,f,I=>by
   obtain⟨x,q,v,G,E,F,r,t,_,_,_,f,J,K⟩:=h;have i:tree[(cQ.aH k a b).rt]? = some x:=G;have G:k<tree.length:=g k (.head _);have G:(k::(a.B++b.B)).Nodup:=l;obtain⟨l,L⟩:=List.nodup_cons.1 G;obtain⟨M,N,m⟩:=List.nodup_append.1 L;have u:∀j,j∈a.B->j∈(cQ.aH k a b).B:=λj h=>.tail _ (fc.2 (.inl h));have w:∀j,j∈b.B->j∈(cQ.aH k a b).B:=λj h=>.tail _ (fc.2 (.inr h));have G:=g _ (u _ a.nb);have G:=g _ (w _ b.nb);have n:∀j∈a.B,s.getD j false=false/\j≠k:=λj h=>⟨A j (u j h) λe=>l (fc.2 (.inl (by have e:j=k:=e;rw[<-e];exact h))),λe=>l (fc.2 (.inl (e▸h)))⟩;have o:∀j∈b.B,s.getD j false=false/\j≠k:=λj h=>⟨A j (w j h) λe=>l (fc.2 (.inr (by have e:j=k:=e;rw[<-e];exact h))),λe=>l (fc.2 (.inr (e▸h)))⟩;have L:a.rt≠b.rt:=m _ a.nb _ b.nb;have y:x.l.toNat=a.rt:=by rw[r];omega
   have z:x.r.toNat=b.rt:=by rw[t];omega
   have l:x.ad.toNat=q:=by rw[E];omega
   obtain⟨G,_⟩:=f.bI;have A:rd x.at'=ec v:=by rw[F];exact G.rd
   have W:(s.set k true).length=tree.length:=by simp[p]
   have W:((s.set k true).set a.rt true).length=tree.length:=by simp[p]
   have O:(((s.set k true).set a.rt true).set b.rt true).length=tree.length:=by simp[p]
   have P:sv tree k cs (s.set k true) x:=by
    refine⟨?_,?_,?_,?_,?_,?_,?_,?_,?_,?_⟩
    ·rw[F];exact G.isNum
    ·rw[A];exact Rat.den_intCast _
    ·rw[E];omega
    ·rw[l];exact f.i
    ·rw[r];omega
    ·rw[r];omega
    ·rw[y,uy,aw (n _ a.nb).2];exact(n _ a.nb).1
    ·rw[t];omega
    ·rw[t];omega
    ·rw[y,z,uy,aw (Ne.symm L),uy,aw (o _ b.nb).2];exact(o _ b.nb).1
   have Q:C.f' cs x.ad.toNat (rd x.at')=h2 cs q (bk (ec v)):=by rw[l,A];exact f.f'
   have R:C.gG cs x.ad.toNat (rd x.at'+1)=ig cs q (bk (ec v+1)):=by rw[l,A];exact f.gG
   have B:∀j,(((s.set k true).set a.rt true).set b.rt true).getD j false=true↔(s.getD j false=true∨j=k∨j=a.rt∨j=b.rt):=λj=>by
    rw[uy,uy,uy];by_cases f:j=b.rt
    ·simp[f]
    ·by_cases b:j=a.rt
     ·simp[b]
     ·by_cases l:j=k
      ·simp[l]
      ·simp[f,b,l]
   have S:∀j∈a.B,j≠a.rt->(((s.set k true).set a.rt true).set b.rt true).getD j false=false:=λj c D=>by
    rw[lz];intro h;rcases(B j).1 h with h | h | h | h
    ·rw[(n j c).1]at h;cases h
    ·exact(n j c).2 h
    ·exact D h
    ·exact m _ c _ b.nb h
   have H:∀{f d},h6 rows tree kL all x.l.toNat (C.f' cs x.ad.toNat (rd x.at')) (((s.set k true).set x.l.toNat true).set x.r.toNat true) f d->f=true/\d.length=tree.length/\∀j,d.getD j false=true↔((((s.set k true).set a.rt true).set b.rt true).getD j false=true∨j∈a.B):=λ{f d} h=>by
    rw[Q,y,z]at h;exact ee.node J M O (λj c=>g j (u j c)) S h
   cases I with
   | leaf _ _ _ _ h _=>rw[i]at h;cases h;omega
   | bad _ _ _ _ _ h _ b=>
     rw[i]at h;cases h;exact absurd P b
   | left _ _ _ _ _ h _ _ b=>
     rw[i]at h;cases h;obtain⟨e,_⟩:=H b;cases e
   | both _ _ _ d _ _ _ h _ _ T s=>
     rw[i]at h;cases h;obtain⟨_,U,C⟩:=H T;rw[R,z]at s;have V:∀j∈b.B,j≠b.rt->d.getD j false=false:=λj c D=>by
      rw[lz];intro h;rcases(C j).1 h with h | h
      ·rcases(B j).1 h with h | h | h | h
       ·rw[(o j c).1]at h;cases h
       ·exact(o j c).2 h
       ·exact m _ a.nb _ c h.symm
       ·exact D h
      ·exact m _ h _ c rfl
     obtain⟨d,e,f⟩:=ee.node K N U (λj c=>g j (w j c)) V s;refine⟨d,e,λj=>?_⟩;rw[f,C,B];show _↔_∨j∈k::(a.B++b.B);rw[hH,fc];constructor
     ·rintro(((h | h | h | h) | h) | h)
      ·exact .inl h
      ·exact .inr (.inl h)
      ·exact .inr (.inr (.inl (h▸a.nb)))
      ·exact .inr (.inr (.inr (h▸b.nb)))
      ·exact .inr (.inr (.inl h))
      ·exact .inr (.inr (.inr h))
     ·rintro(h | h | h | h)
      ·exact .inl (.inl (.inl h))
      ·exact .inl (.inl (.inr (.inl h)))
      ·exact .inl (.inr h)
      ·exact .inr h
theorem ee.VR{t:cQ}{cs:List a1}(h:ee tree (λ_ cs d=>k1 rows kL all cs d=true) t cs)(g:t.rt=0)(i:t.B.Nodup)(e:∀j,j∈t.B↔j<tree.length){b:Bool}{c:List Bool}(f:h6 rows tree kL all 0 cs (List.replicate tree.length false) b c):(b&&!c.contains false)=true:=by
 rw[<-g]at f;obtain⟨b,_,d⟩:=h.node i (by simp) (λj a=>(e j).1 a) (λj a _=>by simp[xd];split<;>rfl) f;rw[b,Bool.true_and,ir,lz];intro b;have b:false∈c:=by simpa using b
 obtain⟨j,a,c⟩:=tp b;have:=(d j).2 (.inr ((e j).2 (by omega)));rw[e5,en a]at this;rw[c]at this;cases this
theorem ee.low{l:ar}:∀{t:cQ} {cs:List a1},ee tree (λ_ cs _=>kB l cs kL all) t cs->kB l cs kL all
 | .ag _,cs,h=>by
   obtain⟨_,_,_,a⟩:=h;exact a
 | .aH _ _ _,cs,h=>by
   obtain⟨_,i,v,_,_,_,_,_,_,_,a,c,e,f⟩:=h;have g:=ee.low e;have j:=ee.low f;obtain⟨k,l⟩:=c.bI;intro y b;have m:=b.w _ a c.i;obtain⟨n,o⟩:=b.f.c _ a;by_cases d:y i<=ec v
   ·exact g y (Ea a b rfl n λ_=>by show y i<=rd (bk (ec v));rw[k.rd];exact d)
   ·have q:=Px (p:=ec v) (Rat.den_intCast _) m (Rat.not_le.1 d);exact j y (Ea a b rfl (λ_=>by show rd (bk (ec v+1))<=y i;rw[l.rd];exact q) o)
theorem ee.sub{t:cQ}{cs:List a1}{k:Nat}{x:cz}(h:ee tree P t cs)(d:t.rt=k)(e:tree[k]? = some x)(s:0<=x.ad):
 ∃(a b:cQ) (i:Nat) (v:Rat),i<cs.length/\kv (cs.getD i bY) v/\C.f' cs x.ad.toNat (rd x.at')=h2 cs i (bk (ec v))/\C.gG cs x.ad.toNat (rd x.at'+1)=ig cs i (bk (ec v+1))/\(rd x.at'=ec v/\x.at'=bk (ec v))/\rd (bk (rd x.at'+1))=rd x.at'+1/\a.rt=x.l.toNat/\b.rt=x.r.toNat/\ee tree P a (C.f' cs x.ad.toNat (rd x.at'))/\ee tree P b (C.gG cs x.ad.toNat (rd x.at'+1)):=by
 cases t with
 | ag j=>
   obtain⟨_,a,_,_⟩:=h;obtain rfl:j=k:=d;rw[e]at a;cases a;omega
 | aH j a b=>
   obtain⟨_,i,v,f,l,g,m,n,_,_,o,c,p,q⟩:=h;obtain rfl:j=k:=d;rw[e]at f;cases f;obtain⟨d,r⟩:=c.bI;have e:rd x.at'=ec v:=by rw[g];exact d.rd
   have d:x.ad.toNat=i:=by rw[l];omega
   rw[e,d,c.f',c.gG];exact⟨a,b,i,v,o,c,rfl,rfl,⟨rfl,g⟩,r.rd,by rw[m];omega,by rw[n];omega,p,q⟩
theorem ee.at'{t:cQ}{cs:List a1}{k:Nat}{x:cz}(h:ee tree P t cs)(a:t.rt=k)(b:tree[k]? = some x)(e:x.ad<0):P k cs x.d:=by
 cases t with
 | ag j=>
   obtain⟨_,c,_,d⟩:=h;obtain rfl:j=k:=a;rw[b]at c;cases c;exact d
 | aH j _ _=>
   obtain⟨_,_,_,c,_,_⟩:=h;obtain rfl:j=k:=a;rw[b]at c;cases c;omega
end
section
variable{l:ar}{cs:List a1}
structure eU(l:ar)(cs:List a1):Prop where
 len:cs.length=l.a.length
 c:∀i,i<cs.length->(cs.getD i bY).cost=(l.ad i).cost/\(cs.getD i bY).int=(l.ad i).int/\((l.ad i).int=false->(cs.getD i bY).low=(l.ad i).low/\(cs.getD i bY).up=(l.ad i).up)/\((l.ad i).int=true->(isNum (cs.getD i bY).low=true/\isNum (cs.getD i bY).up=true)/\(ku (cs.getD i bY).low/\ku (cs.getD i bY).up)/\rd (l.ad i).low<=rd (cs.getD i bY).low/\rd (cs.getD i bY).up<=rd (l.ad i).up)
noncomputable def de(l:ar)(cs:List a1):ar:=⟨cs.map (eE (cB l)),l.rows⟩
theorem eU.same(h:eU l cs):tT l cs:=⟨h.len,λi a=>⟨(h.c i a).1,(h.c i a).2.1⟩⟩
theorem wH{t:Bool}{i:Nat}(a:i<cs.length):(cs.map (eE t)).getD i bY=eE t (cs.getD i bY):=by
 grind
theorem IX{i:Nat}(a:i<cs.length):(de l cs).ad i=eE (cB l) (cs.getD i bY):=wH a
theorem rO:(de l cs).a.length=cs.length:=by simp[de]
theorem eU.ok(h:eU l cs):kC (db l) (cs.map (eE (cB l))):=by
 refine⟨by simp[p1,h.len],λi a=>?_⟩;have a:i<cs.length:=by simpa using a
 have b:i<l.a.length:=by rw[<-h.len];exact a
 obtain⟨_,c,d,e⟩:=h.c i a;rw[wH a,wJ b,vY,vY,oB,oC,oB,oC];refine⟨?_,c,d,λa=>(e a).2.1⟩;unfold eE;grind
theorem eU.fM(a:jq (db l))(h:eU l cs):c5 (de l cs):=h.ok.fM a.s
theorem uk{c:a1}:h9 c=true↔isNum c.cost=true/\(c.low=[]∨isNum c.low=true)/\(c.up=[]∨isNum c.up=true)/\(c.low=[]∨c.up=[]∨rd c.low<=rd c.up):=by
 unfold h9;grind
theorem uL{rows:List b9}:(⟨cs,rows⟩:ar).I=true↔cs.length<=100/\rows.length<=440/\(∀c∈cs,h9 c=true)/\∀r∈rows,iM r cs.length=true:=by
 unfold ar.I;grind
theorem Y8:isNum [48]=true:=by rw[<-xa];exact(nx pA).isNum
theorem N6{t:Bool}{c:a1}(h:h9 c=true):h9 (eE t c)=true:=by
 rw[uk]at h|-;rw[oB,oC];refine⟨?_,h.2⟩;unfold eE;split
 ·exact Y8
 ·exact h.1
theorem Qy(h:l.I=true):(db l).I=true:=by
 obtain⟨a,b,d,e⟩:=(uL (cs:=l.a) (rows:=l.rows)).1 h;refine uL.2 ⟨by simpa using a,b,λc f=>?_,by simpa using e⟩;obtain⟨c,g,rfl⟩:=gl.1 f;exact N6 (d c g)
theorem eU.root(a:nr l)(d:l.I=true)(e:nV l=false):eU l l.a:=by
 refine⟨rfl,λ_ c=>⟨rfl,rfl,λ_=>⟨rfl,rfl⟩,λf=>?_⟩⟩;have b:=cX (ar.kc c);have c:=a.b _ b;have a:=List.any_eq_false.1 e _ b;simp[f]at a;obtain⟨_,e,f,_⟩:=uk.1 (uJ d b);exact⟨⟨e.resolve_left a.1,f.resolve_left a.2⟩,⟨.short a.1 c.1,.short a.2 c.2⟩,kW,kW⟩
theorem eU.up(h:eU l cs){i:Nat}{v:Rat}(c:i<cs.length)(a:kv (cs.getD i bY) v):eU l (h2 cs i (bk (ec v))):=by
 refine⟨by simp[h2,h.len],λj b=>?_⟩;have d:j<cs.length:=by simpa [h2]using b
 clear b;have b:=d;unfold h2;rw[pX c];by_cases e:j=i
 ·subst e;rw[aL rfl];obtain⟨d,c,_,f⟩:=h.c j b;have g:(l.ad j).int=true:=c.symm.trans a.i;obtain⟨⟨i,_⟩,⟨k,_⟩,m,n⟩:=f g;refine⟨d,c,λe=>(by grind),λ_=>⟨⟨i,a.bI.1.isNum⟩,⟨k,O0 a.c0 a.b'⟩,m,?_⟩⟩;show rd (bk (ec v))<=_;rw[a.bI.1.rd];exact Rat.le_trans (Rat.floor_le v) (Rat.le_trans a.az n)
 ·rw[aw e];exact h.c j b
theorem eU.low(h:eU l cs){i:Nat}{v:Rat}(c:i<cs.length)(a:kv (cs.getD i bY) v):eU l (ig cs i (bk (ec v+1))):=by
 refine⟨by simp[ig,h.len],λj b=>?_⟩;have d:j<cs.length:=by simpa [ig]using b
 clear b;have b:=d;unfold ig;rw[pX c];by_cases e:j=i
 ·subst e;rw[aL rfl];obtain⟨d,c,_,f⟩:=h.c j b;have g:(l.ad j).int=true:=c.symm.trans a.i;obtain⟨⟨_,i⟩,⟨_,k⟩,m,n⟩:=f g;refine⟨d,c,λe=>(by grind),λ_=>⟨⟨a.bI.2.isNum,i⟩,⟨NX a.c0 a.b' a.d,k⟩,?_,n⟩⟩;show _<=rd (bk (ec v+1));rw[a.bI.2.rd];exact Rat.le_trans m (Rat.le_trans a.ah (iJ (Qm v)))
 ·rw[aw e];exact h.c j b
theorem GP{rows:List b9}{fF:List a1}(b:fF.length=cs.length)(h:∀i,i<cs.length->((fF.getD i bY).low≠[]->(cs.getD i bY).low≠[]/\rd (fF.getD i bY).low<=rd (cs.getD i bY).low)/\((fF.getD i bY).up≠[]->(cs.getD i bY).up≠[]/\rd (cs.getD i bY).up<=rd (fF.getD i bY).up)){x:Nat->Rat}(f:h4 ⟨cs,rows⟩ x):h4 ⟨fF,rows⟩ x:=by
 refine⟨λj a=>?_,λj a=>?_⟩
 ·have a:j<cs.length:=by rw[<-b];exact a
  obtain⟨g,i⟩:=f.c j a;obtain⟨c,d⟩:=h j a;exact⟨λe=>Rat.le_trans (c e).2 (g (c e).1),λe=>Rat.le_trans (i (d e).1) (d e).2⟩
 ·have e:gz (⟨fF,rows⟩:ar) x j=gz (⟨cs,rows⟩:ar) x j:=by
   show aS (λq=>hs ((⟨cs,rows⟩:ar).row j).G q*x q) fF.length=_;rw[b];rfl
  rw[e];exact f.r j a
theorem GQ{x:Nat->Rat}:h4 (de l cs) x↔h4 ⟨cs,l.rows⟩ x:=by
 have a:(cs.map (eE (cB l))).length=cs.length:=by simp
 constructor
 ·exact GP a.symm λ_ b=>by
   rw[wH (by simpa using b),oB,oC];grind
 ·exact GP a λ_ a=>by
   rw[wH a,oB,oC];grind
theorem eU.fits(h:eU l cs){x:Nat->Rat}(f:h4 ⟨cs,l.rows⟩ x):h4 l x:=by
 refine GP (fF:=l.a) h.len.symm (λi a=>?_) f;obtain⟨_,_,_,b⟩:=h.c i a;show((l.ad i).low≠[]->_/\rd (l.ad i).low<=_)/\((l.ad i).up≠[]->_/\_<=rd (l.ad i).up)
 cases e:(l.ad i).int with
 | false=>
   grind
 | true=>
   obtain⟨⟨a,c⟩,_,d,f⟩:=b e;exact⟨λ_=>⟨nL a,d⟩,λ_=>⟨nL c,f⟩⟩
theorem eU.Oe(h:eU l cs)(k:l.I=true)(m:(de l cs).I=false):cs.any ju=true:=by
 apply o3;intro b;have b:∀c∈cs,ju c=false:=by simpa using b
 obtain⟨m,n,o,p⟩:=(uL (cs:=l.a) (rows:=l.rows)).1 k;have:(de l cs).I=true:=by
  refine uL.2 ⟨by simpa [h.len]using m,n,λc q=>?_,λr k=>by simpa [h.len]using p r k⟩;obtain⟨c,e,rfl⟩:=gl.1 q;have a:=b c e;obtain⟨i,f,rfl⟩:=ux (d:=bY) e;refine N6 (uk.2 ?_);obtain⟨b,_,s,t⟩:=h.c i f;obtain⟨g,u,v,w⟩:=uk.1 (o _ (cX (ar.kc (aa:=l) (i:=i) (by rw[<-h.len];exact f))));rw[b]
  cases j:(l.ad i).int with
  | false=>
    obtain⟨b,c⟩:=s j;rw[b,c];exact⟨g,u,v,w⟩
  | true=>
    obtain⟨⟨b,c⟩,_⟩:=t j;refine⟨g,.inr b,.inr c,.inr (.inr ?_)⟩;unfold ju at a;rw[b,c]at a;simp only[Bool.true_and,decide_eq_false_iff_not]at a;exact fy.1 a
 grind
theorem eU.NG(f:jq (db l))(h:eU l cs)(e:(de l cs).I=true){a:cW}(ax:fZ (de l cs) a)(b7:a.st=1){i:Nat}(d:kE (db l).a a.x=some i):i<cs.length/\kv (cs.getD i bY) (bU a.x i):=by
 obtain⟨b,c,k⟩:=Fk d;rw[p1]at b;have a:i<cs.length:=by rw[h.len];exact b
 rw[BK,wJ b,vY]at c;obtain⟨_,l,_,d⟩:=h.c i a;obtain⟨⟨g,j⟩,_,_⟩:=d c;have d:=(ax.ga (h.fM f) e).1;unfold ga at d;rw[aL b7]at d;simp only[bK]at d;obtain⟨m,n⟩:=(uv e d.2.2.2.2.1).c i (by rw[rO];exact a);rw[IX a,oB,oC]at*
 obtain⟨d,o⟩:=JA f.s h.ok e ax b7 (i:=i) (by simpa using a) (by rw[wJ b,vY];exact c);exact⟨a,⟨l.trans c,g,j,m (nL g),n (nL j),k,d,o⟩⟩
def mf(l:ar)(a:Option Rat)(cs:List a1)(d:List (List UInt8)):Prop:=
 ((de l cs).I=false/\d=[])∨((de l cs).I=true/\d=(eo (de l cs)).d/\((eo (de l cs)).st≠1∨∃u,a=some u/\u<=rd (eo (de l cs)).val))
theorem mf.mono{v aQ:Option Rat}{d:List (List UInt8)}(h:mf l v cs d)(a:∀u,v=some u->∃a,aQ=some a/\a<=u):mf l aQ cs d:=by
 rcases h with h | ⟨a,b,_⟩
 ·exact .inl h
 ·refine .inr ⟨a,b,?_⟩;grind
def MR(l:ar)(s:bV)(k:Nat)(cs:List a1)(d:List (List UInt8)):Prop:=eU l cs/\((k,cs.map (eE (cB l)))∈s.todo∨k∉s.todo.map Prod.fst/\mf l s.val cs d)
structure pB(l:ar)(u:Rat)(a:cW):Prop where
 st:a.st=1
 v:a.val=bk u
 r:rd a.val=u
 f:fU (db l) a.x=true
 w:jm (db l) a.x=true
 c:gy (db l) a.x=some u
 d:a.d=[]
 y:a.r=[]
 s:∀s∈a.x,s.length<=10000
 l:a.val.length<=10000
structure ot(l:ar)(s:bV):Prop where
 ex:∃t:cQ,t.rt=0/\t.B.Nodup/\(∀j,j∈t.B↔j<s.tree.length)/\ee s.tree (MR l s) t l.a
 ao:(s.todo.map Prod.fst).Nodup
 ag:∀x∈s.todo,s.tree[x.1]? = some fs
 aK:s.val=none->s.L=⟨2,[],[],[],[]⟩
 c0:∀u,s.val=some u->pB l u s.L
theorem ee.find{a:List cz}{P:Nat->List a1->List (List UInt8)->Prop}{k:Nat}:∀{t:cQ} {cs:List a1},ee a P t cs->k∈t.gQ->∃b x,a[k]? = some x/\P k b x.d
 | .ag j,cs,h,c=>by
   obtain rfl:k=j:=mV.1 c;obtain⟨x,_,_,_⟩:=h;grind
 | .aH _ _ _,cs,h,c=>by
   obtain⟨x,_,_,_,_,_,_,_,_,_,_,_,d,e⟩:=h
   rcases fc.1 c with h | h
   ·exact ee.find d h
   ·exact ee.find e h
theorem PF{α β:Type}{L:List (α×β)}(b:(L.map Prod.fst).Nodup){i j:Nat}{x y:α×β}(c:L[i]? = some x)(d:L[j]? = some y)(e:x.1=y.1):i=j:=by
 have a:(L.map Prod.fst)[i]? = some x.1:=by rw[jd,c];rfl
 have c:(L.map Prod.fst)[j]? = some y.1:=by rw[jd,d];rfl
 exact(List.getElem?_inj (hZ.1 a).1 b).1 (by rw[a,c,e])
theorem eU.L(d:jq (db l))(m:l.I=true)(h:eU l cs)(b:(de l cs).I=true){a:cW}(ax:fZ (de l cs) a)(b7:a.st=1)(e:kE (db l).a a.x=none):pB l (rd a.val) ⟨1,a.val,a.x,[],[]⟩:=by
 obtain⟨g,n⟩:=DO (h.fM d) b ax b7;obtain⟨i,o,p⟩:=Tc (h.fM d) b ax b7;have c:=(ax.ga (h.fM d) b).1;unfold ga at c;rw[aL b7]at c;simp only[bK,cP]at c;obtain⟨q,_,d,_,r,_⟩:=c;have j:=Qy m;rw[rO,h.len]at i;have f:dJ (db l) a.x (db l).a.length=true:=by
  unfold dJ;rw[j,o,p1];simpa using i
 have s:=uv b r;obtain⟨v,k⟩:=n0.1 q;rw[k]at d;have d:bk v=a.val:=d;have t:rd a.val=v:=by
  have:=s3 g;rw[<-d]at this|-;exact xb this
 have u:(db l).P (bU a.x)=(de l cs).P (bU a.x):=by
  show aS (λi=>rd ((db l).ad i).cost*bU a.x i) (db l).a.length=aS (λi=>rd ((de l cs).ad i).cost*bU a.x i) (de l cs).a.length;rw[p1,rO,h.len];refine c9 λi b=>?_;have c:i<cs.length:=by rw[h.len];exact b
  have:=(h.ok.c i (by simpa using c)).1;rw[show((de l cs).ad i).cost=((db l).ad i).cost from this]
 refine⟨rfl,(s3 g).symm,rfl,?_,?_,?_,rfl,rfl,p,n⟩
 ·unfold fU;rw[f,Bool.true_and];refine(y4 j).2 ?_;have:=h.fits (GQ.1 s);exact(GQ (cs:=l.a)).2 this
 ·unfold jm;rw[f,Bool.true_and];refine AA.2 λi b=>?_;have c:∀i,i<(db l).a.length->(((db l).a.getD i bY).int&&decide ((bU a.x i).den≠1))=false:=by
   intro i b;unfold kE at e;rw[List.find?_range_eq_none]at e;have:=e i b;rw[ir]at this;exact this
  have:=c i b;rw[BK]at this;grind
 ·unfold gy;show(if dJ (db l) a.x (db l).a.length=true then some ((db l).P (bU a.x)) else none)=some (rd a.val);rw[aL f,u,<-JU k,t]
theorem ot.look(F:jq (db l))(ag:l.I=true){s:bV}(h:ot l s){p:Nat}{x:Nat×List a1}(B:s.todo[p]? = some x):ot l ((s.del p).look (db l) x.1 x.2):=by
 obtain⟨V,W,X,Y,G⟩:=h.ex;obtain⟨k,Q⟩:=x;have P:=cX B;have r:s.tree[k]? = some fs:=h.ag _ P;have Z:k<s.tree.length:=(hZ.1 r).1;have t:fs.ad<0:=by decide
 have aa:=G.leaf r t ((Y k).2 Z);have ah:∀y,y∈s.todo->y.1≠k->y∈(s.del p).todo:=λy b C=>by
  obtain⟨i,d⟩:=u5 b;refine List.mem_eraseIdx_iff_getElem?.2 ⟨i,λe=>C ?_,d⟩;grind
 have M:∀y,y∈(s.del p).todo->y∈s.todo/\y.1≠k:=λy b=>by
  obtain⟨i,C,d⟩:=List.mem_eraseIdx_iff_getElem?.1 b;exact⟨cX d,λe=>C (PF h.ao d B e)⟩
 have C:k∈s.todo.map Prod.fst:=gl.2 ⟨_,P,rfl⟩;have nk:k∉(s.del p).todo.map Prod.fst:=λe=>by
  grind
 have nj:∀j,j∉s.todo.map Prod.fst->j∉(s.del p).todo.map Prod.fst:=λj o e=>by
  grind
 have ai:((s.del p).todo.map Prod.fst).Nodup:=h.ao.sublist ((List.eraseIdx_sublist s.todo p).map Prod.fst);have N:∀cs c,MR l s k cs c->eU l cs/\cs.map (eE (cB l))=Q:=λcs c g=>by
  obtain⟨l,g | ⟨g,_⟩⟩:=g
  ·obtain⟨i,d⟩:=u5 g;have:=PF h.ao d B rfl;rw[this,B]at d;cases d;exact⟨l,rfl⟩
  grind
 obtain⟨f,_,_,ad⟩:=G.find aa;obtain⟨O,rfl⟩:=N _ _ ad;have ab:∀cs,cs.map (eE (cB l))=f.map (eE (cB l))->de l cs=de l f:=λcs e=>by unfold de;rw[e]
 have H:∀(a:bV) (B:cz),a.todo=(s.del p).todo->a.tree[k]? = some B->B.ad<0->a.tree.length=s.tree.length->(∀j,j≠k->∀y,s.tree[j]? = some y->a.tree[j]? = some y)->(∀u,s.val=some u->∃C,a.val=some C/\C<=u)->mf l a.val f B.d->(a.val=none->a.L=⟨2,[],[],[],[]⟩)->(∀u,a.val=some u->pB l u a.L)->ot l a:=λa B P Q e3 _ ad e6 e7 e8 e9=>by
  refine⟨⟨V,W,X,λj=>by grind,G.JQ r t ad (λj cs c o _ g=>?_) (λcs g=>?_)⟩,by grind,λy b=>?_,e8,e9⟩
  ·refine⟨g.1,g.2.imp (λh=>?_) λh=>⟨by rw[P];exact nj j h.1,h.2.mono e6⟩⟩;grind
  ·obtain⟨d,_⟩:=N cs _ g;refine⟨B,Q,e3,d,.inr ⟨by rw[P];exact nk,?_⟩⟩;unfold mf at e7|-;grind
  ·rw[P]at b;obtain⟨d,i⟩:=M y b;exact ad _ i _ (h.ag y d)
 have R:∀u,s.val=some u->∃C,s.val=some C/\C<=u:=λu e=>⟨u,e,kW⟩;have aj:∀c,((s.del p).Z k c).tree[k]? = some ⟨-1,[],0,0,c⟩/\((s.del p).Z k c).tree.length=s.tree.length/\∀j,j≠k->∀y,s.tree[j]? = some y->((s.del p).Z k c).tree[j]? = some y:=λc=>by
  have e:((s.del p).Z k c).tree=s.tree.set k {s.tree.getD k fs with d:=c}:=rfl;have Q:s.tree.getD k fs=fs:=by rw[e5,r];rfl
  rw[e,Q];exact⟨by rw[tk Z];rfl,by simp,λj o y b=>by grind⟩
 show ot l ((s.del p).look (db l) k (f.map (eE (cB l))));unfold bV.look;have B:(⟨f.map (eE (cB l)),(db l).rows⟩:ar)=de l f:=rfl;rw[B];by_cases m:(de l f).I=true
 ·rw[aL m];have S:=pg (O.fM F) m;obtain⟨c,D⟩:∃c,c=(eo (de l f)).d:=⟨_,rfl⟩;obtain⟨I,E,J⟩:=aj c;by_cases w:(eo (de l f)).st=1
  ·rw[aL w,<-D];by_cases d:nB (s.del p).val (rd (eo (de l f)).val)=true
   ·rw[aL d];refine H _ _ rfl I (show(-1:Int)<0 by decide) E J R (.inr ⟨m,D,.inr ?_⟩) h.aK h.c0;have d:nB s.val (rd (eo (de l f)).val)=true:=d;unfold nB at d
    cases e:s.val with
    | none=>grind
    | some u=>
      rw[e]at d;exact⟨u,e,by grind⟩
   ·rw[aw d];have d:nB s.val (rd (eo (de l f)).val)=false:=lz.2 d
    cases x:kE (db l).a (eo (de l f)).x with
    | none=>
      simp only;refine H _ _ rfl I (show(-1:Int)<0 by decide) E J (λu e=>⟨_,rfl,?_⟩) (.inr ⟨m,D,.inr ⟨_,rfl,kW⟩⟩) (λe=>by cases e) λu e=>?_
      ·unfold nB at d;grind
      ·cases e;exact O.L F ag m S w x
    | some i=>
      simp only;obtain⟨K,bv⟩:=O.NG F m S w x;obtain⟨v,hv⟩:∃v,v=bU (eo (de l f)).x i:=⟨_,rfl⟩;rw[<-hv]at bv|-;obtain⟨n,T⟩:∃n,n=s.tree.length:=⟨_,rfl⟩;obtain⟨a,q⟩:∃a,a=((s.del p).Z k c).branch k (f.map (eE (cB l))) i v:=⟨_,rfl⟩;rw[<-q];obtain⟨A,U⟩:∃d,d=((s.del p).Z k c).tree:=⟨_,rfl⟩;rw[<-U]at I E J;have d:A.length=n:=by rw[E,T]
      have u:a.tree=((A++[fs])++[fs]).set k ⟨(i:Int),bk (ec v),(A.length:Int),(A.length:Int)+1,[]⟩:=by rw[q,U];rfl
      have L:a.todo=((s.del p).todo++[(n,h2 (f.map (eE (cB l))) i (bk (ec v)))])++[(n+1,ig (f.map (eE (cB l))) i (bk (ec v+1)))]:=by
       rw[q];show((s.del p).todo++[(((s.del p).Z k c).tree.length,_)])++[((((s.del p).Z k c).tree++[fs]).length,_)]=_;rw[<-U,o4,d];rfl
      have ae:a.val=s.val:=by rw[q];rfl
      have af:a.L=s.L:=by rw[q];rfl
      have ak:a.tree.length=n+2:=by rw[u];simp[d]
      have al:k<n:=by omega
      have g1:a.tree[k]? = some ⟨(i:Int),bk (ec v),(A.length:Int),(A.length:Int)+1,[]⟩:=by rw[u,tk (by grind)]
      have g2:a.tree[n]? = some fs:=by
       rw[u,o2 (by omega),hY (by simp[d]),iq (by omega),d];simp
      have g3:a.tree[n+1]? = some fs:=by
       rw[u,o2 (by omega),iq (by simp[d])];simp[d]
      have g4:∀j,j≠k->∀y,s.tree[j]? = some y->a.tree[j]? = some y:=λj o y b=>by
       grind
      have an:∀y,y∈(s.del p).todo->y∈a.todo:=λy b=>by
       grind
      have ao:∀y,y∈s.todo->y.1<n:=λy b=>by rw[T];exact(hZ.1 (h.ag y b)).1
      have aq:∀{cs:List a1},i<cs.length->(h2 cs i (bk (ec v))).map (eE (cB l))=h2 (cs.map (eE (cB l))) i (bk (ec v)):=λK=>by
       unfold h2;rw[List.map_set,wH K];congr 1;unfold eE;split<;>rfl
      have d:∀{cs:List a1},i<cs.length->(ig cs i (bk (ec v+1))).map (eE (cB l))=ig (cs.map (eE (cB l))) i (bk (ec v+1)):=λK=>by
       unfold ig;rw[List.map_set,wH K];congr 1;unfold eE;split<;>rfl
      have ar:∀j,j∈a.todo.map Prod.fst↔j∈(s.del p).todo.map Prod.fst∨j=n∨j=n+1:=λj=>by
       rw[L];simp
      have a:=cQ.Hg (n:=n) X aa;refine⟨⟨V.jK k n,cQ.Ae.trans W,?_,λj=>?_,?_⟩,?_,λy b=>?_,by rw[ae,af];exact h.aK,by rw[ae,af];exact h.c0⟩
      ·refine a.symm.nodup ?_;grind
      ·rw[a.mem_iff,hH,hH,Y j,ak,T];omega
      ·refine G.split (n:=n) (i:=i) (v:=v) (y:=fs) (z:=fs) r t g4 (λj cs c o _ g=>?_) al g1 rfl rfl (by grind) (by grind) g2 t g3 t λcs g=>?_
       ·refine⟨g.1,g.2.imp (λh=>an _ (ah _ h o)) λh=>⟨λe=>?_,by grind⟩⟩;rcases(ar j).1 e with e | e | e
        ·grind
        ·omega
        ·omega
       ·obtain⟨d,h⟩:=N cs _ g;have g:(de l cs).I=true:=by rw[ab cs h];exact m
        have q:fZ (de l cs) (eo (de l f)):=by rw[ab cs h];exact S
        obtain⟨a,c⟩:=d.NG F g q w x;rw[<-hv]at c;refine⟨a,c,⟨d.up a c,.inl ?_⟩,⟨d.low a c,.inl ?_⟩⟩
        ·rw[L,aq a,h];exact fc.2 (.inl (fc.2 (.inr (mV.2 rfl))))
        grind
      ·rw[L];have f:∀j,j∈(s.del p).todo.map Prod.fst->j<n:=λj o=>by
        obtain⟨y,b,e⟩:=gl.1 o;rw[<-e];exact ao y (M y b).1
       rw[List.map_append,List.map_append,List.nodup_append,List.nodup_append];refine⟨⟨ai,by simp,λa c d x e=>?_⟩,by simp,λa c d x e=>?_⟩
       ·have e:=f a c;have a:d=n:=by simpa using x
        omega
       grind
      ·rw[L]at b
       rcases fc.1 b with b | b
       ·rcases fc.1 b with b | b
        ·obtain⟨a,c⟩:=M y b;exact g4 _ c _ (h.ag y a)
        ·rw[mV.1 b];exact g2
       grind
  ·rw[aw w,<-D];exact H _ _ rfl I (show(-1:Int)<0 by decide) E J R (.inr ⟨m,D,.inl w⟩) h.aK h.c0
 ·rw[aw m];exact H _ fs rfl r t rfl (λ_ _ _ h=>h) R (.inl ⟨by simpa using m,rfl⟩) h.aK h.c0
end
def dt(q:Rat)(k:Nat):Prop:=dP q (bS k)
theorem dt.mul{p q:Rat}{a b c:Nat}(h:dt p a)(g:dt q b)(e:a+b=c):dt (p*q) c:=by
 unfold dt;rw[<-pn e];exact dP.mul h g
theorem abN(k:Nat):bS k+bS k<=bS (k+1):=by
 have h:bS k*bS 1=bS (k+1):=pn rfl;have:bS 1=10:=by rw[fQ]
 grind
theorem dt.add{p q:Rat}{a b c:Nat}(h:dt p a)(g:dt q b)(aI:a<=c)(d:b<=c):dt (p+q) (c+1):=
 (dP.add h g).mono (a8 (Nat.add_le_add (j4 aI) (j4 d)) (abN c))
theorem dt.mono{p:Rat}{a b:Nat}(h:dt p a)(c:a<=b):dt p b:=dP.mono h (j4 c)
theorem dt.neg{p:Rat}{a:Nat}(h:dt p a):dt (-p) a:=by
 obtain⟨z,rfl,_⟩:=h;exact⟨-z,(Rat.intCast_neg z).symm,by grind⟩
theorem dt.sub{p q:Rat}{a b c:Nat}(h:dt p a)(g:dt q b)(aI:a<=c)(d:b<=c):dt (p-q) (c+1):=by
 rw[Rat.sub_eq_add_neg];exact h.add g.neg aI d
theorem dt.sum{f:Nat->Rat}{n a:Nat}(b:n<=10)(h:∀i,i<n->dt (f i) a):dt (aS f n) (a+1):=by
 refine(dP.sum h).mono ?_;have e:bS 1*bS a=bS (a+1):=pn (by omega);have:bS 1=10:=by rw[fQ]
 rw[<-e,this];exact fV _ b
theorem dt.nat{N k:Nat}(h:N<=bS k):dt (N:Rat) k:=⟨(N:Int),(mU _).symm,by simpa using h⟩
theorem dt.den{q:Rat}{a k Q:Nat}(b:bI (bS a) q)(c:q.den∣Q)(d:Q<=bS k):dt (q*(Q:Rat)) (a+k):=by
 unfold dt;rw[<-pn (rfl:a+k=a+k)];exact yT b c d
structure lN(aa:ar):Prop where
 n:aa.a.length<=6
 m:aa.rows.length<=6
 c:∀c∈aa.a,c.low.length<=20/\c.up.length<=20/\c.cost.length<=20
 r:∀r∈aa.rows,r.rhs.length<=30/\r.G.length<=1000/\∀c∈r.G,c.v.length<=20
section
variable{aa:ar}
theorem lN.fM(h:lN aa):c5 aa:=⟨h.n,by have:=h.m;omega,λc a=>by have:=h.c c a;omega,λr b=>⟨(h.r r b).1,by have:=(h.r r b).2.1;omega,λc a=>by have:=(h.r r b).2.2 c a;omega⟩⟩
theorem qs{l:List UInt8}{k:Nat}(h:l.length<=k):bI (bS k) (rd l):=by rw[fQ];exact tv h
theorem Np(k:Nat):bI (bS k) 0:=nx (As k)
theorem lN.ad(h:lN aa)(j:Nat):bI (bS 20) (rd (aa.ad j).low)/\bI (bS 20) (rd (aa.ad j).up)/\bI (bS 20) (rd (aa.ad j).cost):=by
 by_cases a:j<aa.a.length
 ·obtain⟨b,c,d⟩:=h.c _ (cX (ar.kc a));exact⟨qs b,qs c,qs d⟩
 ·have:aa.ad j=⟨[],[],[],[],false⟩:=by rw[ar.ad,e5,hc (by omega)];rfl
  rw[this];exact⟨qs (by simp),qs (by simp),qs (by simp)⟩
theorem lN.row(h:lN aa)(i:Nat):bI (bS 30) (rd (aa.row i).rhs)/\∀j,bI (bS 20) (aa.j.A i j):=by
 have a:(aa.row i).rhs.length<=30/\∀c∈(aa.row i).G,c.v.length<=20:=by
  by_cases b:i<aa.rows.length
  ·obtain⟨_,_,_⟩:=h.r _ (cX (ar.rowAt b));grind
  ·have:aa.row i=⟨[],1,[],[],[]⟩:=by rw[ar.row,e5,hc (by omega)];rfl
   grind
 refine⟨qs a.1,λj=>?_⟩
 rcases Dx (l:=(aa.row i).G) (f:=λ_=>0) j with e | ⟨c,b,e⟩
 ·show bI _ (hs _ j);rw[hs,e];exact Np 20
 ·show bI _ (hs _ j);rw[hs,e];exact qs (a.2 c b)
end
structure ld(l:ar)(cs:List a1):Prop extends tT l cs where
 b:∀c∈cs,c.low.length<=20/\c.up.length<=20
theorem ld.set{l:ar}{cs:List a1}(h:ld l cs){i:Nat}{c:a1}(b:i<cs.length)(b7:c.cost=(cs.getD i bY).cost)(cH:c.int=(cs.getD i bY).int)(e:c.low.length<=20)(e:c.up.length<=20):ld l (cs.set i c):=
 ⟨h.totT.set b b7 cH,λd a=>by
  rcases List.mem_or_eq_of_mem_set a with a | rfl
  ·exact h.b d a
  grind⟩
theorem ld.fM{l:ar}{cs:List a1}(a:lN l)(h:ld l cs):lN ⟨cs,l.rows⟩:=by
 refine⟨by show cs.length<=6;rw[h.len];exact a.n,a.m,λ_ b=>?_,a.r⟩;obtain⟨i,c,rfl⟩:=ux (d:=bY) b;have e:=(h.c i c).1;have e:=h.b _ b;have b:=(a.c _ (cX (ar.kc (aa:=l) (i:=i) (by rw[<-h.len];exact c)))).2.2;grind
section
variable{l:ar}{cs:List a1}
theorem h6.ex{rows:List b9}{a:List cz}{c:Rat}{all:Bool}{k:Nat}{s d:List Bool}{b:Bool}(h:h6 rows a c all k cs s b d):∃x,a[k]? = some x:=by
 cases h<;>exact⟨_,by assumption⟩
theorem zI(a:cB l=false):de l cs=⟨cs,l.rows⟩:=by
 unfold de;have:cs.map (eE (cB l))=cs:=by
  rw[a];have:eE false=id:=by funext c;rfl
  rw[this,List.map_id]
 rw[this]
theorem QU(a:jq (db l))(h:eU l cs)(b:(de l cs).I=true):(eo (de l cs)).st=1∨(eo (de l cs)).st=2∨(eo (de l cs)).st=3:=by
 have c:=pg (h.fM a) b;have d:=(c.ga (h.fM a) b).1;unfold ga at d;grind
theorem QT(d:jq (db l))(e:c5 l)(f:l.I=true)(h:eU l cs)(g:(de l cs).I=true):(eo (de l cs)).st≠3:=by
 intro _;have k:=pg (h.fM d) g;obtain⟨_,m⟩:=F8 (k.ga (h.fM d) g).1
 rcases m with⟨x,y,b,s,_⟩ | ⟨y,b,s,_⟩ | ⟨x,r,s,Ck,rq,_⟩
 ·grind
 ·grind
 cases a:cB l with
 | true=>
   have b:(de l cs).P r=0:=by
    refine ng λi b=>?_;have b:i<cs.length:=by rw[<-rO (l:=l)];exact b
    rw[IX b,a];show rd [48]*_=0;have:rd [48]=0:=by rw[<-xa];exact(nx pA).rd
    rw[this,Rat.zero_mul]
   have:=rq.n;grind
 | false=>
   rw[zI a]at Ck rq;have n:=h.fits Ck;have o:om l r:=by
    refine⟨λj g=>?_,λi p=>?_,?_⟩
    ·have d:j<cs.length:=by rw[h.len];exact g
     obtain⟨b,c⟩:=rq.c j d;obtain⟨_,_,_,q⟩:=h.c j d;have b:(cs.getD j bY).low≠[]->0<=r j:=b;have c:(cs.getD j bY).up≠[]->r j<=0:=c
     cases s:(l.ad j).int with
     | false=>
       grind
     | true=>
       obtain⟨⟨d,g⟩,_⟩:=q s;exact⟨λ_=>b (nL d),λ_=>c (nL g)⟩
    ·have b:gz l r i=gz (⟨cs,l.rows⟩:ar) r i:=by
      show aS (λq=>hs (l.row i).G q*r q) l.a.length=aS (λq=>hs ((⟨cs,l.rows⟩:ar).row i).G q*r q) cs.length;rw[h.len];rfl
     rw[b];exact rq.r i p
    ·have:=rq.n;rwa [SQ h.same]at this
   have b:=pg e f;obtain⟨_,t⟩:=F8 (b.ga e f).1
   rcases t with⟨xT,LM,cC,jJ,_,Fi,_⟩ | ⟨LM,cC,jJ,Fi,oJ,_⟩ | ⟨xT,bG,jJ,_⟩
   ·exact wS o Fi
   ·have:=Az n Fi;grind
   ·unfold cB at a;grind
theorem NB(h:eU l cs)(g:l.I=true)(c:(de l cs).I=true){d:List (List UInt8)}:eX ⟨cs,l.rows⟩ d false=eX (de l cs) d false:=by
 have e:(⟨cs,l.rows⟩:ar).I=true:=by
  obtain⟨j,k,m,n⟩:=uL.1 c;obtain⟨_,_,o,_⟩:=(uL (cs:=l.a) (rows:=l.rows)).1 g;refine uL.2 ⟨by simpa using j,k,λ_ a=>?_,by simpa using n⟩;have:=uk.1 (m _ (List.mem_map_of_mem a));rw[oB,oC]at this;obtain⟨i,f,rfl⟩:=ux (d:=bY) a;have a:=(uk.1 (o _ (cX (ar.kc (aa:=l) (i:=i) (by rw[<-h.len];exact f))))).1;exact uk.2 ⟨by rw[(h.c i f).1];exact a,this.2⟩
 have p:∀b,lJ (⟨cs,l.rows⟩:ar) false (bU d) b↔lJ (de l cs) false (bU d) b:=λb=>by
  have g:∀j,gb (⟨cs,l.rows⟩:ar) false (bU d) j=gb (de l cs) false (bU d) j:=λj=>rfl;have f:∀j,j<cs.length->((de l cs).ad j).low=((⟨cs,l.rows⟩:ar).ad j).low/\((de l cs).ad j).up=((⟨cs,l.rows⟩:ar).ad j).up:=λj a=>by
   rw[IX a,oB,oC];exact⟨rfl,rfl⟩
  constructor
  ·rintro⟨d,_,g⟩;refine⟨d,λj a=>?_,?_⟩
   ·have a:j<cs.length:=by rw[<-rO (l:=l)];exact a
    grind
   ·rw[g];congr 1;show aS _ cs.length=aS _ (de l cs).a.length;rw[rO];exact c9 λj a=>by grind
  ·rintro⟨d,g,h⟩;refine⟨d,λj a=>?_,?_⟩
   ·have a:j<cs.length:=a;rw[<-(f j a).1,<-(f j a).2];exact g j (by rw[rO];exact a)
   ·rw[h];congr 1;show aS _ (de l cs).a.length=aS _ cs.length;rw[rO];exact c9 λj a=>by grind
 have a:dJ (⟨cs,l.rows⟩:ar) d l.rows.length=dJ (de l cs) d l.rows.length:=by
  unfold dJ;rw[e,c]
 unfold eX;show(if dJ (⟨cs,l.rows⟩:ar) d l.rows.length=true then _ else none)=(if dJ (de l cs) d l.rows.length=true then _ else none);rw[a];split
 ·apply Option.ext;intro b;rw[yu e,yu c];exact p b
 ·rfl
theorem mf.shown(c:jq (db l))(j:c5 l)(f:l.I=true){g:Option Rat}{d:List (List UInt8)}(h:eU l cs)(k:mf l g cs d){i:Rat}{all:Bool}(b:g=none∨g=some i/\cB l=false/\all=false):k1 l.rows i all cs d=true:=by
 unfold k1
 rcases k with⟨fw,_⟩ | ⟨fw,rfl,cD⟩
 ·rw[h.Oe f fw];rfl
 ·have g:=pg (h.fM c) fw;have a:=(g.ga (h.fM c) fw).1
  rcases QU c h fw with s | s | s
  ·rcases cD with cD | ⟨_,e,h⟩
   ·exact absurd s cD
   rcases b with b | ⟨b,d,rfl⟩
   ·rw[b]at e;cases e
   rw[b]at e;cases e;rw[zI d]at a h|-;unfold ga at a;rw[aL (by rw[zI d]at s;exact s)]at a;grind
  ·unfold ga at a;rw[aw (by omega),aL s]at a;simp only[bK,cP]at a;obtain⟨b,d,_⟩:=a;rw[NB h f fw,b,hd d];simp
  ·exact absurd s (QT c j f h fw)
theorem mf.low(b:jq (db l))(j:c5 l)(e:l.I=true){c:Option Rat}{d:List (List UInt8)}(h:eU l cs)(k:mf l c cs d){f:Rat}{all:Bool}(m:(∃u,c=some u)->cB l=false)(g:k1 l.rows f all cs d=true):kB l cs f all:=by
 rcases k with⟨fw,_⟩ | ⟨fw,rfl,cD⟩
 ·exact Of (h.Oe e fw)
 ·have i:=pg (h.fM b) fw;have a:=(i.ga (h.fM b) fw).1
  rcases QU b h fw with s | s | s
  ·rcases cD with cD | ⟨u,c,_⟩
   ·grind
   have f:=m ⟨u,c⟩;have d:=(DO (h.fM b) fw i s).1;rw[zI f]at a s d g;refine Qc h.same (λf i=>?_) g;unfold ga at a;rw[aL s]at a;simp only[bK,cP]at a;obtain⟨_,_,_,c,_⟩:=a;rw[i]at c;have c:bk f=_:=c;rw[<-c]at d;exact xb (s3 d)
  ·unfold ga at a;rw[aw (by omega),aL s]at a;simp only[bK,cP]at a;obtain⟨c,d,_⟩:=a;rw[<-NB h e fw]at c d;exact QV c d
  ·exact absurd s (QT b j e h fw)
theorem ot.run(c:jq (db l))(d:l.I=true){deep:Bool}{m:Nat}{s a:bV}{b:Bool}(h:hz (db l) deep m s a b):ot l s->b=true->ot l a/\a.todo=[]/\a.tree.length<=m:=by
 induction h with
 | done s _=>grind
 | jj s _ _=>grind
 | step s _ _ _ b _ _ ih=>intro h a;exact ih (h.look c d b) a
theorem ot.start(b:nr l)(c:l.I=true)(d:nV l=false):ot l (py.U (db l).a):=by
 refine⟨⟨.ag 0,rfl,by simp[cQ.B],λ_=>?_,⟨fs,rfl,by decide,.root b c d,.inl ?_⟩⟩,?_,λ_ a=>?_,λ_=>rfl,λ_ e=>by cases e⟩
 ·simp[cQ.B,bV.U,py]
 ·simp[bV.U,py,db]
 ·simp[bV.U,py]
 ·simp[bV.U,py]at a;subst a;rfl
structure x2(l:ar)(iN:bV):Prop where
 ex:∃t:cQ,t.rt=0/\t.B.Nodup/\(∀j,j∈t.B↔j<iN.tree.length)/\ee iN.tree (λ_ cs d=>eU l cs/\mf l iN.val cs d) t l.a
 n:iN.tree.length<=300
 aK:iN.val=none->iN.L=⟨2,[],[],[],[]⟩
 c0:∀u,iN.val=some u->pB l u iN.L
theorem sV(b:nr l)(c:l.I=true)(d:nV l=false){deep:Bool}{k:Int}{e:bV}(h:hz (db l) deep (lo k) (py.U (db l).a) e true):x2 l e:=by
 obtain⟨⟨⟨t,f,g,i,j⟩,_,_,l,m⟩,_,n⟩:=ot.run (b.ok d) c h (.start b c d) rfl;refine⟨⟨t,f,g,i,j.imp λk cs _ a=>⟨a.1,?_⟩⟩,a8 n QD,l,m⟩
 rcases a.2 with a | a
 ·grind
 ·exact a.2
theorem pB.fit(b:l.I=true){u:Rat}{a:cW}(h:pB l u a):pK l.rows l.a (bU a.x)/\fU l a.x=true/\jm l a.x=true:=by
 have c:=Qy b;have d:=(GQ (cs:=l.a)).1 (uv c h.f);have f:∀i,i<l.a.length->(l.ad i).int=true->(bU a.x i).den=1:=λi c e=>JX h.w i (by rw[p1];exact c) (by rw[wJ c,vY];exact e);have e:dJ l a.x l.a.length=true:=by
  have:=h.f;unfold fU at this;rw[bK]at this;obtain⟨a,g⟩:=CM this.1;unfold dJ;rw[g,b];rw[p1]at a;simpa using a
 refine⟨⟨d,f⟩,?_,?_⟩
 ·unfold fU;rw[e,Bool.true_and];exact(y4 b).2 d
 ·unfold jm;rw[e,Bool.true_and];refine AA.2 λi c=>?_;grind
theorem pB.cost(b:cB l=false){u:Rat}{a:cW}(h:pB l u a):l.P (bU a.x)=u/\gy l a.x=some u:=by
 have e:db l=l:=zI (cs:=l.a) b;have a:=h.c;rw[e]at a;exact⟨(JU a).symm,a⟩
end
section
variable{l:ar}{deep:Bool}{k:Int}{b:cW}{u:List cz}{e:Int}
theorem x2.low{a:bV}(b:jq (db l))(c:c5 l)(d:l.I=true)(h:x2 l a){e:Rat}{all:Bool}(f:(∃u,a.val=some u)->C.cB l=false)(g:a.val=none∨a.val=some e/\C.cB l=false/\all=false):kB l l.a e all:=by
 obtain⟨_,_,_,_,a⟩:=h.ex;exact(a.imp λk _ _ a=>a.2.low b c d a.1 f (a.2.shown b c d a.1 g)).low
theorem iy.taken(d:nr l)(h:iy l deep k b u e)(j:e=0)(t:b.st≠4){c:Bool}(f:iU l b u c):c=true:=by
 cases h with
 | form _=>cases j
 | wide _ _=>cases j
 | jj _ _ _ _=>grind
 | cB k a e m c g=>
   have E:=sV d a e m
   cases h:k.val with
   | none=>rw[E.aK h]at g;cases g
   | some q=>
     obtain⟨_,_,_⟩:=(E.c0 q h).fit a;have g:=pg d.s a;have j:(eo l).st=3:=by unfold C.cB at c;simpa using c
     have c:=(g.ga d.s a).1;unfold ga at c;rw[aw (by omega),aw (by omega),aL j]at c;simp only[bK,cP]at c;have g:=c.2.1;have c:=g;unfold iL at c;rw[bK]at c;have n:=(z7 a).1 c.2;obtain⟨_,o⟩:=CM c.1;have b:oM l (eo l).r=true:=by
      unfold oM;rw[eA];intro i b;have b:=o6.1 b
      cases p:(l.ad i).int with
      | false=>rfl
      | true=>
        have c:=eU.root d a e;obtain⟨⟨a,e⟩,_⟩:=(c.c i b).2.2.2 p;obtain⟨c,g⟩:=n.c i b;have b:=c (nL a);have a:=g (nL e);have a:bU (eo l).r i=0:=by grind
        have b:i<(eo l).r.length:=by omega
        have c:isNum ((eo l).r.getD i [])=true:=by
         rw[e5,en b];exact(eA.1 o) _ (tn b)
        have b:=s3 c;have a:rd ((eo l).r.getD i [])=0:=a;rw[a,xa]at b;rw[<-b];simp
     unfold iU at f;grind
 | done a b i p q=>
   have E:=sV d b i p;have r:=d.ok i;obtain⟨t,n,s,o,u⟩:=E.ex;have g:0<a.tree.length:=(o 0).1 (by rw[<-n];exact t.nb);have i:=E.n;have v:∀{i:List UInt8} {j:Bool} {c:Bool},(isNum i=true∨j=true)->(a.val=none∨a.val=some (rd i)/\C.cB l=false/\j=false)->j5 l a.tree i j c->c=true:=λ{i j c} i w h=>by
    unfold j5 at h;rw[aL ⟨b,g,by omega,i⟩]at h;obtain⟨_,_,e,rfl⟩:=h;exact(u.imp λk _ _ c=>c.2.shown r d.s b c.1 w).VR n s o e
   cases m:a.val with
   | none=>
     have c:=E.aK m;unfold iU at f;grind
   | some d=>
     have B:=E.c0 d m;have c:C.cB l=false:=by
      cases e:C.cB l with
      | false=>rfl
      | true=>exact absurd ⟨e,B.st⟩ q
     obtain⟨_,k,x⟩:=B.fit b;obtain⟨_,h⟩:=B.cost c;have y:isNum a.L.val=true:=by
      cases e:isNum a.L.val with
      | true=>rfl
      | false=>
        have d:=e;rw[B.v]at e;have g:=Ja d;rw[B.r]at g;rw[g,(nx pA).isNum]at e;cases e
     unfold iU at f;rw[aL ⟨b,rfl⟩]at f;have b:a.L.st=1:=B.st;rw[aL b,aL ⟨by rw[h];rfl,by rw[h];exact B.v.symm,k,x,rfl⟩]at f;exact v (.inl y) (.inr ⟨by rw[m,B.r],c,rfl⟩) f
end
end Go.Dam.C
namespace Go.Dam.C
open Go Go.Dam
variable{X:aA}{pm cu:Perm}{H ab bX ai:ae}{n:Nat}
section
variable{l:ar}{a b:cW}{deep:Bool}{k:Int}{u:List cz}{e:Int}
theorem si(h:ga l a=true)(b7:a.st=1):h4 l (bU a.x)/\a.val=bk (l.P (bU a.x))/\(∀x,h4 l x->l.P (bU a.x)<=l.P x)/\∀r,¬om l r:=by
 have d:=(F8 h).1;unfold ga at h;rw[aL b7]at h;simp only[bK,cP]at h;obtain⟨f,g,b,c,i,_⟩:=h;obtain⟨v,e⟩:=n0.1 f;obtain⟨w,f⟩:=n0.1 g;rw[e]at b;rw[f]at c;have j:v=w:=xb (b.trans c.symm);have g:v=l.P (bU a.x):=JU e;have c:=vQ d f;rw[<-j,g]at c;refine⟨uv d i,by rw[<-g];exact b.symm,λx b=>?_,λr d=>wS d c⟩;have:=Az b c;simpa using this
theorem iy.closed(h:iy l deep k b u e)(a:e=0):nV l=false:=by
 cases h with
 | form _=>cases a
 | wide _ _=>cases a
 | jj _ _ b _=>exact b
 | cB _ _ b _ _ _=>exact b
 | done _ _ b _ _=>exact b
end
end Go.Dam.C
namespace Go.Dam.C
open Go Go.Dam
variable{H:ae}
theorem Gm{b:Nat}(aP:0<b)(c:b<=1000000)(a:Int):∃k:Nat,k<b/\(a.tmod b+b).tmod b=(k:Int)/\wr .i64 (a.tmod b)=a.tmod b/\wr .i64 (a.tmod b+b)=a.tmod b+b:=by
 have c:-(b:Int)<a.tmod b:=by have:=Int.lt_tmod_of_pos a (show(0:Int)<b by omega);omega
 have c:a.tmod b<b:=Int.tmod_lt_of_pos a (by omega);have c:=Int.tmod_lt_of_pos (a.tmod b+b) (show(0:Int)<b by omega);have c:0<=(a.tmod b+b).tmod b:=Int.tmod_nonneg _ (by omega);exact⟨((a.tmod b+b).tmod b).toNat,by omega,by omega,cE,cE⟩
def ar.qY(aa:ar)(r:b9):ar:=⟨aa.a,aa.rows++[r]⟩
end Go.Dam.C
namespace Go.Dam.C
open Go Go.Dam
variable{X:aA}{pm cu:Perm}{H ab bX ai:ae}{n:Nat}
section
variable{l:ar}{r:b9}{a b:cW}{x:Nat->Rat}{k:Nat}
theorem w0{i:Nat}(h:i<l.rows.length):(l.qY r).row i=l.row i:=by
 unfold ar.qY ar.row;simp[hY h]
theorem D5{i j:Nat}(h:i<l.rows.length):(l.qY r).j.A i j=l.j.A i j:=by
 show hs ((l.qY r).row i).G j=hs (l.row i).G j;rw[w0 h]
theorem h4.qY(h:h4 (l.qY r) x):h4 l x:=by
 refine⟨h.c,λi a=>?_⟩;have:=h.r i (by simp[ar.qY];omega);have e:gz (l.qY r) x i=gz l x i:=c9 λ_ _=>by rw[D5 a]
 rwa [w0 a,e]at this
theorem om.qY(h:om (l.qY r) x):om l x:=by
 refine⟨h.c,λi a=>?_,h.n⟩;have:=h.r i (by simp[ar.qY];omega);have e:gz (l.qY r) x i=gz l x i:=c9 λ_ _=>by rw[D5 a]
 rwa [w0 a,e]at this
theorem h4.Gq(c:k<l.a.length)(h:h4 l x):h4 (l.Jv k (l.ad k).low []) x:=by
 have e:∀i,gz (l.Jv k (l.ad k).low []) x i=gz l x i:=λi=>by unfold gz;rw[oV];rfl
 refine⟨λj a=>?_,λi b=>by rw[e i];exact h.r i b⟩;rw[oV]at a;have:=h.c j a;rw[wB a];split
 ·rename_i e;subst e;exact⟨this.1,λh=>absurd rfl h⟩
 ·exact this
theorem Fv{ah a:List UInt8}(c:k<l.a.length):(l.Jv k ah a).P x=l.P x:=by
 unfold ar.P;rw[oV];refine c9 λ_ b=>?_;rw[wB b];split
 ·rename_i e;subst e;rfl
 ·rfl
theorem Gp(aI:ga l a=true)(b7:a.st=1)(c:ga (l.qY r) b=true):b.st≠3/\(b.st=1->b.val=bk (l.P (bU b.x))/\l.P (bU a.x)<=l.P (bU b.x)):=by
 obtain⟨_,_,a,b⟩:=si aI b7;refine⟨λ_=>?_,λh=>?_⟩
 ·rcases(F8 c).2 with⟨_,_,_,s,_⟩ | ⟨_,_,s,_⟩ | ⟨x,y,_,f,Ji,_⟩
  ·omega
  ·omega
  ·exact b y Ji.qY
 ·obtain⟨b,d,_⟩:=si c h;exact⟨d,a _ b.qY⟩
theorem Gn(aI:ga l a=true)(b7:a.st=1)(d:k<l.a.length)(e:ga (l.Jv k (l.ad k).low []) b=true):b.st≠2/\(b.st=1->b.val=bk (l.P (bU b.x))/\l.P (bU b.x)<=l.P (bU a.x)):=by
 obtain⟨b,_,_⟩:=si aI b7;have a:=b.Gq d;refine⟨λ_=>?_,λh=>?_⟩
 ·rcases(F8 e).2 with⟨_,_,_,s,_⟩ | ⟨y,c,_,Fi,dN,_⟩ | ⟨_,_,s,_⟩
  ·omega
  ·have:=Az a Fi;simp only[kl,if_false]at this;exact fy.2 this dN
  ·omega
 ·obtain⟨_,b,c,_⟩:=si e h;have:=c _ a;rw[Fv d]at this b;rw[Fv d]at this;exact⟨b,this⟩
theorem Gr(d:k<l.a.length)(a:l.I=true):(l.Jv k (l.ad k).low []).I=true:=by
 unfold ar.I at a|-;rw[oV];simp only[bK,eA]at a|-;obtain⟨e,b,f⟩:=a;refine⟨e,λc a=>?_,f⟩;have g:c∈l.a.set k {l.ad k with low:=(l.ad k).low,up:=[]}:=a
 rcases List.mem_or_eq_of_mem_set g with h | rfl
 ·exact b c h
 ·have:=b _ (cX (ar.kc d));unfold h9 at this|-;simp only[bK,jG]at this|-;exact⟨this.1,this.2.1,.inl rfl,.inr (.inl rfl)⟩
end
end Go.Dam.C
namespace Go.Dam.C
open Go Go.Dam
variable{X:aA}{pm:Perm}{H ab bX ai:ae}{n:Nat}
structure D4(X:aA):Prop extends sw X where
 ma:Has X F.ma C.ma
abbrev Fx:Nat:=T.GJ
theorem w1{m w cap cR aW:Nat}{c:Option Addr}{P:Nat->List Value->Prop}(h:dE H (.slice c m cap) m w P)(r:jN aW (.slice c m cap))(s:1<=w)(t:m<=1000)(u:cR<=200)(v:∀i cs,P i cs->cs.all dd=true):
 ∃f l,(∀x∈f,∃y,H.get x=some y)/\(0<m->l.length=m*w/\∀i,i<m->∃cs,bB l (i*w) w=some cs/\P i cs)/\
  ∀ab,Ext H ab->∀ah b fJ,(fz w (.slice c m cap) λnew n=>fj w cR (.slice none 0 0) new n).runT ⟨ah,fJ,some b⟩ ab=some (aZ b m,jR ab b m w l,f,nA b m):=by
 obtain⟨_,_,e,d⟩:=h.ex;cases e
 cases c with
 | none=>
   have a:m=0:=by
    apply o3;intro _;obtain⟨_,_,_,_,_,e,_⟩:=d 0 (by omega);cases e
   subst a;refine⟨[],[],(by simp),λh=>absurd h (Nat.lt_irrefl 0),λab _ ah b fJ=>?_⟩;unfold fz;exact Oa
 | some _=>
   have k:0<m:=r.2;obtain⟨z,A,y,B,_,f,g,n,_⟩:=d 0 k;cases f;have o:∀i,i<m->∃cs,bB B (A+i*w) w=some cs/\P i cs:=λi a=>by
    obtain⟨_,_,_,_,cs,f,b,h,l,m⟩:=d i a;cases f;rw[g]at b;cases b;rw[n]at h;cases h;exact⟨cs,l,m⟩
   obtain⟨l,C,c,d⟩:=O9 k (λi a=>(o i a).imp λ_ h=>h.1);have q:∀i,i<m->∃cs,bB l (i*w) w=some cs/\P i cs:=λi a=>by
    obtain⟨cs,b,f⟩:=o i a;exact⟨cs,by rw[d i a,b],f⟩
   refine⟨[z],l,λx j=>⟨y,by rw[mV.1 j];exact g⟩,λ_=>⟨c,q⟩,λab j ah b fJ=>?_⟩;have D:l.all dd=true:=by
    rw[eA];intro _ b;obtain⟨p,h,rfl⟩:=tp b;have a:p<m*w:=by omega
    have b:p/w<m:=ts (by rw[eZ];exact a);obtain⟨cs,a,c⟩:=q (p/w) b;have b:=(sX a).2;have a:=eA.1 (v _ _ c);have c:p%w<w:=o1 _ (by omega);have e:p/w*w+p%w=p:=by rw[eZ];exact xi p w
    refine a _ ?_;rw[b];refine List.mem_iff_getElem?.2 ⟨p%w,?_⟩;rw[jY c,jZ,e];exact en h
   unfold fz;simp only[bf.runT,j _ _ g,n,C];rw[copyV D s t u]
structure FF(H:ae)(aW et aH:Nat)(aa:ar)(dB:Nat->Nat):Prop where
 b:aW<=et/\et<aH/\aH<H.next/\∀i,i<aa.rows.length->aH<dB i
 c:0<aa.a.length->∃L,H.get et=some (.cells L (.n 5))/\ey L 5 aa.a.length λj=>(aa.ad j).cells
 w:0<aa.rows.length->∃L,H.get aH=some (.cells L (.n 5))/\ey L 5 aa.rows.length λi=>(aa.row i).cells (aZ (dB i) (aa.row i).G.length)
 v:∀i,i<aa.rows.length->0<(aa.row i).G.length->∃M,H.get (dB i)=some (.cells M (.n 2))/\ey M 2 (aa.row i).G.length λk=>((aa.row i).G.getD k VX).cells
variable{eH cZ et aH eg dv:Nat}{hC dr:Nat->List Value}
theorem FA(B:bl pm ai)(q:vu ai eH cZ et aH)(s:gX pm ai H eH cZ et aH eg dv hC dr)(R:dv<=12){i:Nat}(f:i<dv){r:b9}{cj:Value}{aW:Nat}(D:dr i=r.cells cj)
 (E:kz ai cj r.G) (V:jN aW cj) (W:r.G.length<=1000) {R:cl}
 (F:∀aU ab b,Sub [(15,.int .i64 (i:Int)),(14,.int .i64 (dv:Int)),(2,.pointer (some ⟨eH,0,none⟩)),(3,.pointer (some ⟨cZ,0,none⟩))] aU->gX pm ai ab eH cZ et aH eg dv hC (λj=>if j=i then r.cells (aZ b r.G.length) else dr j)->
  (0<r.G.length->∃M,ab.get b=some (.cells M (.n 2))/\ey M 2 r.G.length λk=>(r.G.getD k VX).cells)->H.next<=b->(∀b y,b≠aH->H.get b=some y->ab.get b=some y)->R .normal aU ab):
 wp X pm (.code (.seq (.bs [m 17 15,m 4 17]) C.C5)) [(16,.bool true),(15,.int .i64 (i:Int)),(14,.int .i64 (dv:Int)),(2,.pointer (some ⟨eH,0,none⟩)),(3,.pointer (some ⟨cZ,0,none⟩))] H [] R:=by
 have g:=s.k.h;have R:=q.b7;have R:=q.cH;have R:=q.cD;have R:=q.dS;have R:=g.lt s.x;obtain⟨L,G,I⟩:=s.w (by omega);have v:=s.x;rw[dA (show 0<dv by omega)]at v;have l:L[i*5+2]? = some cj:=by rw[(I.2 i f).2 2 (by decide),D];rfl
 obtain⟨Y,Z,rfl,_⟩:=E.ex;have R:kz H (.slice Y r.G.length Z) r.G:=E.ext (s.k.ext B);obtain⟨E,J,Y,N,O⟩:=w1 (cR:=24) R V (by decide) W (by decide) (λi cs ⟨aa,_,R⟩=>by rw[R];rfl);have ad:∀x∈E,x<H.next:=λx c=>by obtain⟨y,E⟩:=Y x c;exact g.lt E
 obtain⟨z,e⟩:∃z,z=H.next:=⟨_,rfl⟩;obtain⟨d,P⟩:∃k,k=r.G.length:=⟨_,rfl⟩;rw[<-P]at O N F;rw[<-P]at l;have Q:K pm H (H.up 13):=(K.refl g).up 13;have S:=O _ (Q.ext g) pm.ah (z+9) pm.ok;obtain⟨w,p⟩:∃A,A=jR (H.up 13) (z+9) d 2 J:=⟨_,rfl⟩;have t:K pm H w:=by rw[p];exact aC.jR Q (by omega) (by rw[e];exact g.none 9) (by show z+9<H.next+13;omega)
 rw[<-p]at S;have ae:∀j,j≠9->w.get (z+j)=none:=λj T=>by rw[p,BM,e];exact g.none j
 have U:=t.some g G;have E:=t.some g v;obtain⟨A2,u⟩:∃A,A=w.put aH (.cells (L.set (i*5+2) (aZ (z+9) d)) (.n 5)):=⟨_,rfl⟩;have s2:gX pm ai A2 eH cZ et aH eg dv hC (λj=>if j=i then r.cells (aZ (z+9) d) else dr j):=by
  rw[u];exact(s.up t).row q f (by decide) (by rw[D];simp[b9.cells]) (λj _ h=>by simp[h]) U
 have af:∀b i,dd (aZ b i)=true:=λb i=>by unfold aZ;split<;>rfl
 have ag:∀b i,(aZ b i).cells=#[aZ b i]:=λb i=>by unfold aZ;split<;>rfl
 have aj:setCells L (i*5+2) [aZ (z+9) d]=some (L.set (i*5+2) (aZ (z+9) d)):=setCells_one (I.lt f (show 2<5 by decide));have ak:=λo=>ej (ah:=pm.ah) (ok:=pm.ok) (o:=o) (b:=aH) (by have:=B.ah;omega);have d1:=(uo (a:=[cZ]) (b:=nA (z+9) d) (n:=z) (λx c=>by rw[mV.1 c];omega) (λx c=>by rw[BN c];omega)).2;have l4:cZ<z:=by omega
 have l5:aH<z:=by omega
 have al:=λj=>(by rw[e];exact g.none j:(H.up 13).get (z+j)=none);have an:=(by rw[e];exact g.O:(H.up 13).get z=none);simp;refine cx.of g.ah rfl ?_;rw[<-e];simp[b8,al,an,v,G,f,l,S,ae,U, ag,af,aj,ak,<-u,d1,l4,l5,b3,bZ,cU,-fz];refine⟨λx c=>.inl (.inl (.inl (by have:=ad x c;omega))),?_⟩;refine F _ _ (z+9) ?_ s2 (λh=>?_) (by omega) λb y hb h=>?_
 ·simp
 ·obtain⟨a,b⟩:=N h;refine⟨J,by rw[u,a6,p];exact Gf h,ey.of a λj T=>?_⟩;obtain⟨cs,i,aa,l,rfl⟩:=b j T;rw[i,e5,l];rfl
 ·rw[u,a6 (h:=hb)];exact t.some g h
end Go.Dam.C
namespace Go.Dam.C
open Go Go.Dam
variable{X:aA}{pm:Perm}{H ab bX ai:ae}{n:Nat}
theorem DX(hX:D4 X)(g:bl pm H){v:Value}{aa:ar}{aW:Nat}(hv:mh H aW v aa)(ax:c5 aa)(aE:∀i,i<aa.rows.length->(aa.row i).G.length<=1000):
 Call X pm F.ma [v] H λr ab=>K pm H ab/\∃W br dB,r=.agg #[aZ W aa.a.length,aZ br aa.rows.length]/\FF ab H.next W br aa dB:=by
 refine Call.W hX.ma rfl λ_ hQ=>?_;obtain⟨_,_,rfl,hc,hr,aF,aG⟩:=hv;have W:=ax.n;have W:=ax.m;obtain⟨an,ao,rfl,_⟩:=hc.ex;obtain⟨aq,au,rfl,_⟩:=dE.ex hr;obtain⟨I,C⟩:∃b,b=H.next:=⟨_,rfl⟩;obtain⟨s,J⟩:∃s,s=H.new (.cells [.slice an aa.a.length ao,.slice aq aa.rows.length au] (.t Fx)):=⟨_,rfl⟩;have k1:K pm H s:=by rw[J];exact K.new g _
 have g1:=k1.h;have aH:s.get I=some (.cells [.slice an aa.a.length ao,.slice aq aa.rows.length au] (.t Fx)):=by rw[J,C];exact cc
 obtain⟨p,V⟩:∃b,b=s.next:=⟨_,rfl⟩;obtain⟨a,L⟩:∃a,a=s.new (.cells [.slice none 0 0,.slice none 0 0] (.t tyU1)):=⟨_,rfl⟩;have W:K pm s a:=by rw[L];exact K.new g1 _
 have d:=W.h;have aI:a.get p=some (.cells [.slice none 0 0,.slice none 0 0] (.t tyU1)):=by rw[L,V];exact cc
 have E:=W.some g1 aH;have Y:=k1.trans W;have W:s.next=I+1:=by rw[J,C];rfl
 have s:a.next=p+1:=by rw[L,V];rfl
 obtain⟨fc,lc,W,Z,ad⟩:=w1 (cR:=72) (hO.ext hc (Y.ext g)) aF (by decide) (by omega) (by decide) (λi cs ⟨av,_,f⟩=>by rw[f];rfl);obtain⟨fr,M,an,ae,af⟩:=w1 (cR:=80) (dE.imp hr (Y.ext g) λ_ _ _ h=>h) aG (by decide) (by omega) (by decide) (λi cs ⟨av,cj,_,f,m,_⟩=>by
  rw[f];obtain⟨_,_,b,_⟩:=m.ex;rw[b];rfl)
 have ag:∀x∈fc,x<a.next:=λx e=>by obtain⟨ao,s⟩:=W x e;exact d.lt s
 have N:∀x∈fr,x<a.next:=λx e=>by obtain⟨ao,s⟩:=an x e;exact d.lt s
 obtain⟨t,O⟩:∃k,k=aa.a.length:=⟨_,rfl⟩;obtain⟨l,P⟩:∃k,k=aa.rows.length:=⟨_,rfl⟩;rw[<-O]at ad Z E;rw[<-P]at af ae E;obtain⟨z,w⟩:∃z,z=a.next:=⟨_,rfl⟩;have kU:K pm a (a.up 9):=(K.refl d).up 9;have xU:=kU.ext d;obtain⟨Q,D⟩:∃A,A=jR (a.up 9) (z+2) t 5 lc:=⟨_,rfl⟩;have ai:K pm a Q:=by rw[D];exact aC.jR kU (by omega) (by rw[w];exact d.none 2) (by show z+2<a.next+9;omega)
 have c2:=ad _ xU pm.ah (z+2) pm.ok;have aJ:=ai.ext d;obtain⟨R,y⟩:∃A,A=jR Q (z+5) l 5 M:=⟨_,rfl⟩;have S:∀j,j≠2->Q.get (z+j)=none:=λj c=>by rw[D,BM,w];exact d.none j
 have s:Q.next=z+9:=by rw[D,Gg,w];rfl
 have aw:K pm a R:=by rw[y];exact aC.jR ai (by omega) (S 5 (by decide)) (by omega)
 have c4:=af _ aJ pm.ah (z+5) pm.ok;have T:∀j,j≠2->j≠5->R.get (z+j)=none:=λj c _=>by rw[y,BM];exact S j c
 have aK:R.next=z+9:=by rw[y,Gg,s]
 rw[<-D]at c2;rw[<-y]at c4;have aL:=ai.some d E;have s:=aw.some d E;simp[g.pick,g.make,ptr,<-C,<-J,  <-V,<-L,-wA];refine cx.of d.ah rfl ?_;rw[<-w];have ay:=λj=>(by rw[w];exact d.none j:(a.up 9).get (z+j)=none);have az:=(by rw[w];exact d.O:(a.up 9).get z=none);have aA:∀b i,dd (aZ b i)=true:=λb i=>by unfold aZ;split<;>rfl
 have aM:∀b i,(aZ b i).cells=#[aZ b i]:=λb i=>by unfold aZ;split<;>rfl
 obtain⟨G,u⟩:∃A,A=R.put (z+7) (.cells [.slice none 0 0,.slice none 0 0] (.t tyU2)):=⟨_,rfl⟩;obtain⟨A4,B⟩:∃A,A=G.put (z+7) (.cells [aZ (z+2) t,aZ (z+5) l] (.t tyU2)):=⟨_,rfl⟩;have aB:G.get (z+8)=none:=by rw[u,a6];exact T 8 (by decide) (by decide)
 have aj:G.get (z+7)=some (.cells [.slice none 0 0,.slice none 0 0] (.t tyU2)):=by rw[u];exact bO
 have J:=λo=>ej (ah:=pm.ah) (ok:=pm.ok) (o:=o) (b:=z+7) (by have:=d.ah;omega);have L:I<z:=by omega
 have ak:∀j k,∀x∈nA (z+j) k,z<=x:=λj k x e=>by rw[BN e];omega
 have C:∀x∈[I],x<z:=λx e=>by rw[mV.1 e];omega
 have s:∀x∈[z+7],z<=x:=λx e=>by rw[mV.1 e];omega
 rw[<-w]at ag N;have d1:=λj k=>(uo C (ak j k)).2;have d2:=λj k=>(uo N (ak j k)).2;have d3:=(uo C s).2;have d4:=(uo ag s).2;have d5:=(uo N s).2;have d6:=(Od (n:=t) (show z+2≠z+7 by omega)).2;have d7:=(Od (n:=l) (show z+5≠z+7 by omega)).2;have f1:∀b∈fc,b<z∨z+9<=b:=λb U=>.inl (ag b U);have f2:∀b∈fr,b<z∨z+9<=b:=λb U=>.inl (N b U);rw[<-O,<-P];simp[d1, d3,d4,d5,d6,d7,L,cU,b8,ay,az,E,c2,S,aL,c4,T,aM,aA,setCells,bA,Perm.make,Perm.pick,ptr,<-u,aB,aj,J,<-B,b3,bZ,-fz,-wA];refine⟨⟨λx e=>.inl (.inl (f1 x e)),λx e=>.inl (.inl (f2 x e))⟩,?_⟩;have e:G.next=z+9:=by rw[u];exact aK
 have s:K pm a G:=by rw[u];exact aC.fill aw (by omega) (T 7 (by decide) (by decide)) (by omega) _
 have aD:K pm a A4:=by rw[B];exact aC.put s (by omega) aj (by simp) _
 have a:A4.next=z+9:=by rw[B];exact e
 have aN:vu H p (z+7) (z+2) (z+5):=⟨by omega,by omega,by omega,by omega⟩;obtain⟨q,al⟩:∃q:Nat->Value,∀j,j<l->(bB M (j*5) 5=some ((aa.row j).cells (q j))/\kz H (q j) (aa.row j).G/\jN aW (q j)):=by
  have:∀j,∃v,j<l->(bB M (j*5) 5=some ((aa.row j).cells v)/\kz H v (aa.row j).G/\jN aW v):=λj=>by
   by_cases c:j<l
   ·obtain⟨cs,b,r,cj,m,rfl,g,i⟩:=(ae (by omega)).2 j c;rw[ar.rowAt (by omega)]at m;cases m;exact⟨cj,λ_=>⟨b,g,i⟩⟩
   ·exact⟨.bool true,λh=>absurd h c⟩
  exact⟨λj=>(this j).choose,λj=>(this j).choose_spec⟩
 have s0:gX pm H A4 p (z+7) (z+2) (z+5) t l (λj=>(aa.ad j).cells) (λj=>(aa.row j).cells (q j)):=by
  refine⟨K.trans Y aD,aD.some d aI,by rw[B];exact bO,λh=>⟨lc,?_,ey.of (Z h).1 λj c=>?_⟩,λh=>⟨M,?_,ey.of (ae h).1 λj c=>(al j c).1⟩⟩
  ·rw[B,a6,u,a6,y,BM,D];exact Gf h
  ·obtain⟨cs,b,av,m,rfl⟩:=(Z h).2 j c;rw[ar.kc (by omega)]at m;cases m;exact b
  ·rw[B,a6,u,a6,y];exact Gf h
 clear D y u B af ad c2 c4 S T aB aj d1 d2 d3 d4 d5 d6 d7 f1 f2 ay az ak;obtain⟨_,d,_⟩:=qA (z+2) t;obtain⟨_,e,_⟩:=qA (z+5) l;have a:=s0.x;rw[d,e]at a;simp[a,-C0,-C4]
 refine er (σ:=Nat->Nat) l (λ_ _=>[(2,.pointer (some ⟨p,0,none⟩)),(3,.pointer (some ⟨z+7,0,none⟩))])
  (λi dB ab=>gX pm H ab p (z+7) (z+2) (z+5) t l (λj=>(aa.ad j).cells) (λj=>if j<i then(aa.row j).cells (aZ (dB j) (aa.row j).G.length) else(aa.row j).cells (q j))/\
   ∀j,j<i->(0<(aa.row j).G.length->∃M,ab.get (dB j)=some (.cells M (.n 2))/\ey M 2 (aa.row j).G.length λk=>((aa.row j).G.getD k VX).cells)/\z+6<=dB j)
  (λ_=>0) ⟨by simpa using s0,λj c=>absurd c (gS _)⟩ ?_ ?_
 ·rintro i dB _ a ⟨d,o⟩;refine FA g aN d (by omega) a (r:=aa.row i) (cj:=q i) (aW:=aW) (by simp) (al i a).2.1 (al i a).2.2 (aE i (by omega)) ?_;intro _ _ b a v n U F;have e:=d.k.h.lt d.x;refine⟨λj=>if j=i then b else dB j,a,?_,λj c=>?_⟩
  ·have f:(λj=>if j=i then(aa.row i).cells (aZ b (aa.row i).G.length) else if j<i then(aa.row j).cells (aZ (dB j) (aa.row j).G.length) else(aa.row j).cells (q j))=(λj=>if j<i+1 then(aa.row j).cells (aZ (if j=i then b else dB j) (aa.row j).G.length) else(aa.row j).cells (q j)):=by
    funext j;by_cases f:j=i
    ·subst f;simp
    ·by_cases m:j<i
     ·simp[f,m,show j<i+1 by omega]
     ·simp[f,m,show ¬j<i+1 by omega]
   rw[<-f];exact v
  ·by_cases f:j=i
   ·subst f;simp only[if_true];exact⟨n,by omega⟩
   ·simp only[f,if_false];obtain⟨a,b⟩:=o j (by omega);exact⟨λh=>(a h).imp λ_ n=>⟨F _ _ (by omega) n.1,n.2⟩,b⟩
 ·rintro dB o ⟨n,r⟩;have v:=n.x;have F:=n.r;have gB:=n.k.h;have aa:pm.may p=true:=g.may (by omega);obtain⟨X,b⟩:∃A,A=o.put p (.cells [aZ (z+2) t,aZ (z+5) l] (.t tyU1)):=⟨_,rfl⟩;simp[v,F,bB,bA, aA,setCells,aa,<-b];refine hQ _ _ _ ?_;have a:X.get p=some (.cells [aZ (z+2) t,aZ (z+5) l] (.t tyU1)):=by rw[b];exact bO
  have d:K pm H X:=by rw[b];exact aC.put n.k (by omega) F (by simp) _
  simp[ft,a,bB,bA];refine⟨d,z+2,z+5,⟨by rw[O],by rw[P]⟩,dB,⟨by omega,by omega,by have:=d.h.lt a;have:=gB.lt v;rw[b];show z+5<o.next;omega,λi a=>by have:=(r i (by omega)).2;omega⟩,λh=>?_,λh=>?_,λi a h=>?_⟩
  ·obtain⟨L,a,d⟩:=n.c (by omega);exact⟨L,by rw[b,a6];exact a,by rw[<-O];exact d⟩
  ·obtain⟨L,d,a⟩:=n.w (by omega);refine⟨L,by rw[b,a6];exact d,?_⟩;rw[<-P];refine⟨a.1,λj c=>?_⟩;have:=a.2 j c;simp only[c,if_true]at this;exact this
  ·obtain⟨a,_⟩:=r i (by omega);exact(a h).imp λ_ a=>⟨by rw[b,a6];exact a.1,a.2⟩
end Go.Dam.C
namespace Go.Dam.C
open Go Go.Dam
variable{X:aA}{pm cu:Perm}{H ab bX ai:ae}{n:Nat}
structure rY(X:aA):Prop extends wD X where
 ma:Has X F.ma C.ma
 q4:Has X F.q4 C.q4
theorem rY.r(h:rY X):D4 X:=⟨h.tosw,h.ma⟩
theorem FC(Y:rY X)(g:bl pm H){p3 I e aW:Nat}{l:ar}{a:cW}{v1 v2:Value}{ad:Int}(r:c5 l)(aK:∀i,i<l.rows.length->(l.row i).G.length<=1000)(v:l.I=true)(aI:fZ l a)(Z:a.st=1)
 (r3:H.get p3=some (.cells [v1,v2] (.t T.tA))) (ao:mh H aW (.agg #[v1,v2]) l) {x y z:Value} (J:H.get I=some (.cells [.int .i64 a.st,ak a.val,x,y,z] (.t T.ss)))
 {w1 w2:Value} (aa:H.get e=some (.cells [w1,w2] (.t T.oz))) (aL:pm.may e=true) {L:bn} {Q:cl} (hL:Sub [(2,.int .i64 ad),(3,.pointer (some ⟨p3,0,none⟩)),(8,.pointer (some ⟨I,0,none⟩)),(10,.pointer (some ⟨e,0,none⟩))] L)
 (aM:ai.next<=e) (k0:K pm ai H) (ae:∀aU ab,K pm ai ab->aF 6 aU=some (.bool true)->Q .ret aU ab):
 wp X pm (.code C.nh) L H [] Q:=by
 simp only[Sub]at hL;obtain⟨l2,l3,l8,au,_⟩:=hL;obtain⟨_,_,M,aN,aO,_,_⟩:=id ao;cases M;obtain⟨aP,aQ,rfl,_⟩:=aN.at;obtain⟨aS,aT,rfl,_⟩:=aO.rows.at;have aN:=r.n;by_cases hz:l.a.length=0
 ·simp[l3,r3,hz];exact ae _ _ k0 (by simp)
 have aN:((l.a.length:Int)==0)=false:=by
  rw[lz];simpa using hz
 simp[l3,r3,aN,bB,bA,-Cb,-wo];refine al.of (aq:=[.agg #[.slice aP l.a.length aQ,.slice aS l.rows.length aT]]) (DX Y.r g ao r aK) ?_;rintro _ H1 ⟨w,d,s,vb,rfl,N⟩;have g1:=w.h;have av:=w.some g aa;have q3:=w.some g r3;have qa:=w.some g J;have aV:∀b i,dd (aZ b i)=true:=λb i=>by unfold aZ;split<;>rfl
 have ao:∀b i,(aZ b i).cells=#[aZ b i]:=λb i=>by unfold aZ;split<;>rfl
 obtain⟨_,_,_,o4⟩:=N.b;have ao:=g.lt aa;obtain⟨f,O⟩:∃A,A=H1.put e (.cells [aZ d l.a.length,aZ s l.rows.length] (.t T.oz)):=⟨_,rfl⟩;have k2:K pm ai f:=by rw[O];exact aC.put (K.trans k0 w) aM av (by simp) _
 have n:=k2.h;have aw:∀b y,b≠e->H1.get b=some y->f.get b=some y:=λb y w h=>by rw[O,a6 (h:=w)];exact h
 have R:f.get e=some (.cells [aZ d l.a.length,aZ s l.rows.length] (.t T.oz)):=by rw[O];exact bO
 simp[av,setCells,aL, aV,<-O,au,-wo];obtain⟨k,p,aX,w1,w2⟩:=Gm (show 0<l.a.length by omega) (by omega) ad;obtain⟨t,w,cL⟩:=N.c (by omega);have ay:=aw _ _ (by omega) w;have w:aZ d l.a.length=.slice (some ⟨d,0,none⟩) l.a.length l.a.length:=dA (by omega);rw[w]at R;obtain⟨S,B⟩:∃z,z=f.next:=⟨_,rfl⟩;have kU:K pm f (f.up 18):=(K.refl n).up 18;have aY:=λj=>(by rw[B];exact n.none j:(f.up 18).get (S+j)=none);have a7:=(by rw[B];exact n.O:(f.up 18).get S=none);have w:=cL.lt p (show 2<5 by decide);have sc:setCells t (k*5+2) [ak []]=some (t.set (k*5+2) (ak [])):=setCells_one w;have a8:ai.next<=d:=by have:=k0.next;omega
 have a_:=λo=>ej (ah:=pm.ah) (ok:=pm.ok) (o:=o) (b:=d) (by have:=g.ah;omega);have ba:e<S:=by rw[B];exact n.lt R
 have bb:d<S:=by rw[B];exact n.lt ay
 obtain⟨q,D⟩:∃A,A=(f.up 18).put d (.cells (t.set (k*5+2) (ak [])) (.n 5)):=⟨_,rfl⟩;have az:(f.up 18).get d=some (.cells t (.n 5)):=kU.some n ay;have k3:K pm ai q:=by rw[D];exact aC.put (aC.trans k2 (kU.mono k2.next)) a8 az (by simp) _
 have g3:=k3.h;simp;refine cx.of n.ah rfl ?_;rw[<-B];simp[b8,aY,a7,R,au,l2, w2,aX, hz,p,az,a_,sc,<-D,b3,bZ,ba,bb,  -Bz];have bc:q.get e=some (.cells [.slice (some ⟨d,0,none⟩) l.a.length l.a.length,aZ s l.rows.length] (.t T.oz)):=by rw[D,a6];exact R
 have af:∀b y,b≠e->b≠d->H1.get b=some y->q.get b=some y:=λb y E F h=>by rw[D,a6 (h:=F)];exact aw b y E h
 have bd:ey (t.set (k*5+2) (ak [])) 5 l.a.length λj=>((l.Jv k (l.ad k).low []).ad j).cells:=by
  have m:=cL.set (ic:=λj=>(if j=k then{l.ad k with low:=(l.ad k).low,up:=[]} else l.ad j:a1).cells) p (show 2<5 by decide) (ak []) (by simp[a1.cells]) λj _ h=>by simp[h]
  refine⟨m.1,λj b=>?_⟩;have:=m.2 j b;show((l.Jv k (l.ad k).low []).ad j).cells.length=5/\∀a,a<5->(t.set (k*5+2) (ak []))[j*5+a]? = ((l.Jv k (l.ad k).low []).ad j).cells[a]?;rw[wB b];exact this
 have bf:kA q (.agg #[.slice (some ⟨d,0,none⟩) l.a.length l.a.length,aZ s l.rows.length]) (l.Jv k (l.ad k).low []):=by
  refine⟨_,_,rfl,?_,?_⟩
  ·show dE q _ (l.Jv k (l.ad k).low []).a.length 5 _;rw[oV];have h:=ey.nd (H:=q) (b:=d) (P:=λi a=>∃c,(l.Jv k (l.ad k).low []).a[i]? = some c/\a=c.cells) (λ_=>⟨_,by rw[D];exact bO,bd⟩) λi a=>⟨_,ar.kc (by rw[oV];exact a),rfl⟩;rwa [dA (by omega)]at h
  ·show dE q (aZ s l.rows.length) l.rows.length 5 _;exact ey.nd (λh=>by
    obtain⟨L,E,F⟩:=N.w h;exact⟨L,af _ _ (by omega) (by omega) E,F⟩) λi a=>⟨l.row i,aZ (vb i) (l.row i).G.length,ar.rowAt a,rfl,ey.nd (λh=>by
     obtain⟨b,E,F⟩:=N.v i a h;have:=o4 i a;exact⟨b,af _ _ (by omega) (by omega) E,F⟩) λj a=>⟨_,by rw[e5,en a];rfl,rfl⟩⟩
 have U:c5 (l.Jv k (l.ad k).low []):=Hp r p (by have:=r.c _ (cX (ar.kc p));omega) (by simp);have ag:=Gr p v;simp[bc,bB,bA,   -BI,-Bu];refine al.of (aq:=[.agg #[.slice (some ⟨d,0,none⟩) l.a.length l.a.length,aZ s l.rows.length]]) (MZ Y.tofC g3 U.ok bf (λv=>Jo U v)) ?_;rintro _ V ⟨k4,h4⟩
 rcases h4 with⟨Ev,_⟩ | ⟨_,c,u,rfl,hu,ax⟩
 ·rw[ag]at Ev;cases Ev
 have G:=k4.h;obtain⟨_,_,_,rfl,d,e,f⟩:=id hu;obtain⟨aA,aB,e1,_⟩:=d.1.ex;obtain⟨aD,aE,e2,_⟩:=e.1.ex;obtain⟨aG,aH,e3,_⟩:=f.1.ex;subst e1 e2 e3;obtain⟨W,aj⟩:∃c,c=V.next:=⟨_,rfl⟩;have bg:pm.may W=true:=G.may (by omega);have bh:∀x,(V.new x).get W=some x:=λx=>by rw[aj];exact cc
 obtain⟨H5,an⟩:∃A,A=(V.new (.cells [.int .i64 0,.string ⟨#[]⟩,.slice none 0 0,.slice none 0 0,.slice none 0 0] (.t T.Bt))).put W (.cells [.int .i64 c.st,ak c.val,.slice aA c.x.length aB,.slice aD c.d.length aE,.slice aG c.r.length aH] (.t T.Bt)):=⟨_,rfl⟩;have d:K pm V H5:=by rw[an,aj];exact gh G _ _
 have g5:=d.h;have aJ:=K.trans k3 (K.trans k4 d);have bj:H5.get I=_:=d.some G (k4.some g3 (af I _ (λM=>by rw[M,aa]at J;cases J) (λM=>by have:=g.lt J;omega) qa));have d:H5.get W=some (.cells [.int .i64 c.st,ak c.val,.slice aA c.x.length aB,.slice aD c.d.length aE,.slice aG c.r.length aH] (.t T.Bt)):=by rw[an];exact bO
 obtain⟨e,_⟩:=fZ.ga r v aI;obtain⟨f,_⟩:=fZ.ga U ag ax;obtain⟨j,k⟩:=Gn e Z p f;have f:(c.st==2)=false:=by simpa using j
 simp[G.pick,G.make,ptr,bA,<-aj,bh,bg,<-an,setCells,d,l8, f,-tN];by_cases m:c.st=1
 ·have b:(c.st==1)=true:=by simpa using m
  obtain⟨b,h⟩:=k m;obtain⟨_,f,_⟩:=si e Z;have e:=(DO r v aI Z).1;have g:=(DO U ag ax m).1;rw[f]at e;rw[b]at g;simp[m, d,bj, f,b,-tN];refine al.of (aq:=[ak (bk (l.P (bU c.x))),ak (bk (l.P (bU a.x)))]) (Fj Y.towD g5 g e) ?_;rintro _ _ ⟨i,rfl⟩;have b:¬0<iF (l.P (bU c.x)) (l.P (bU a.x)):=by
   rw[nz];exact fy.2 h
  simp[b];exact ae _ _ (K.trans aJ i) (by simp)
 ·have a:(c.st==1)=false:=by simpa using m
  simp[a, aR,-tN];refine al.not ?_;simp[aR];exact ae _ _ aJ (by simp)
end Go.Dam.C
namespace Go.Dam.C
open Go Go.Dam
variable{X:aA}{pm cu:Perm}{H ab bX ai:ae}{n:Nat}
theorem FE(G:rY X)(g:bl pm H){v cj:Value}{aa:ar}{r:b9}{ad:Int}(bw:sB H v aa)(bx:fS H cj r.G.length 2 λi cs=>∃c,r.G[i]? = some c/\cs=c.cells):
 Call X pm F.q4 [v,.agg (r.cells cj).toArray,.int .i64 ad] H λr ab=>K pm H ab/\r=.bool true:=by
 refine Call.W G.q4 rfl λbz hQ=>?_;have hv:=bw.aa;obtain⟨_,_,rfl,hc,hr⟩:=hv;obtain⟨aW,aX,rfl,_⟩:=hc.at;obtain⟨aY,a7,rfl,_⟩:=hr.at;obtain⟨cb,ai,rfl,_⟩:=id bx;obtain⟨J,a_⟩:∃b,b=H.next:=⟨_,rfl⟩;obtain⟨M,aM⟩:∃M,M=H.new (.cells [.slice aW aa.a.length aX,.slice aY aa.rows.length a7] (.t T.tA)):=⟨_,rfl⟩;have k1:K pm H M:=by rw[aM];exact K.new g _
 have g1:=k1.h;have cg:M.get J=some (.cells [.slice aW aa.a.length aX,.slice aY aa.rows.length a7] (.t T.tA)):=by rw[aM,a_];exact cc
 have n1:M.next=J+1:=by rw[aM,a_];rfl
 obtain⟨p4,ba⟩:∃b,b=M.next:=⟨_,rfl⟩;obtain⟨H2,az⟩:∃A,A=M.new (.cells (r.cells (.slice cb r.G.length ai)) (.t T.E5)):=⟨_,rfl⟩;have k2:K pm M H2:=by rw[az];exact K.new g1 _
 have g2:=k2.h;have bC:H2.get p4=some (.cells (r.cells (.slice cb r.G.length ai)) (.t T.E5)):=by rw[az,ba];exact cc
 have bD:=k2.some g1 cg;have M:H2.next=p4+1:=by rw[az,ba];rfl
 have bE:=K.trans k1 k2;have ck:pm.may J=true:=g.may (by omega);have bb:∀M ab,K pm H ab->aF 6 M=some (.bool true)->bz .ret M ab:=λM ab bF M=>hQ _ _ _ (by simp[M];exact bF);simp only[b9.cells]at az bC|-;simp[g.pick,g.make,ptr,<-a_,<-aM,  <-ba,<-az,-BU,-By];refine al.of (aq:=[]) (Ve G.tosw g2.ep) ?_;rintro _ H2 ⟨rfl,rfl⟩;simp[bD,bB,bA,-BQ,-Bx];refine al.of (aq:=[.agg #[.slice aW aa.a.length aX,.slice aY aa.rows.length a7]]) (T9 G.tosw pm _ g2 _ aa (bw.ext (bE.ext g))) ?_;rintro _ H3 ⟨k3,f3⟩;have M:=k3.h;have bG:=k3.some g2 bD;have cl:=k3.some g2 bC;obtain⟨_,u2,rfl,bH,bI,cm,cn⟩:=f3;obtain⟨aA,aB,rfl,_⟩:=bH.at;obtain⟨aD,aE,rfl,_⟩:=bI.rows.at;obtain⟨W,aj⟩:∃A,A=H3.put J (.cells [.slice aA aa.cut.a.length aB,.slice aD aa.cut.rows.length aE] (.t T.tA)):=⟨_,rfl⟩;have k4:K pm H W:=by rw[aj];exact aC.put (K.trans bE k3) (by omega) bG (by simp) _
 have g4:=k4.h;have bd:W.get J=some (.cells [.slice aA aa.cut.a.length aB,.slice aD aa.cut.rows.length aE] (.t T.tA)):=by rw[aj];exact bO
 have cp:W.get p4=some _:=(by rw[aj,a6]:W.get p4=H3.get p4).trans cl;have aN:mh W H2.next (.agg #[.slice aA aa.cut.a.length aB,.slice aD aa.cut.rows.length aE]) aa.cut:=by
  rw[aj];exact mh.put ⟨_,_,rfl,bH,bI,cm,cn⟩ (by omega) _
 have cq:fS W (.slice cb r.G.length ai) r.G.length 2 λi cs=>∃c,r.G[i]? = some c/\cs=c.cells:=fS.imp bx (k4.ext g) λ_ _ _ h=>h;have m:=aa.Oj;have bf:∀i,i<aa.cut.rows.length->(aa.cut.row i).G.length<=1000:=λi Y=>by
  obtain⟨r,_,e⟩:=gl.1 (cX (ar.rowAt Y):aa.cut.row i∈(aa.rows.take 6).map b9.cut);rw[<-e];simp only[b9.cut,rU,l6];omega
 have cr:aa.cut.rows.length<=6:=by simp[ar.cut];omega
 obtain⟨l,hl⟩:∃l,l=aa.cut:=⟨_,rfl⟩;rw[<-hl]at aj bd aN m bf cr;have M:=m.n;simp[bG,setCells,ck,<-hl,<-aj,bd,bB,bA,-BC,-Bw];refine al.of (aq:=[.agg #[.slice aA l.a.length aB,.slice aD l.rows.length aE]]) (MZ G.tofC g4 m.ok aN.aa (λN=>Jo m N)) ?_;rintro _ H5 ⟨k5,h5⟩;have n:=k5.h;have ct:=k5.some g4 bd;have cv:=k5.some g4 cp;obtain⟨O,an⟩:∃c,c=H5.next:=⟨_,rfl⟩;have bg:pm.may O=true:=n.may (by have:=k5.next;have:=k4.next;omega);have bh:∀x,(H5.new x).get O=some x:=λx=>by rw[an];exact cc
 rcases h5 with⟨N,rfl⟩ | ⟨N,a,u,rfl,hu,ax⟩
 ·obtain⟨H6,Z⟩:∃A,A=(H5.new (.cells [.int .i64 0,.string ⟨#[]⟩,.slice none 0 0,.slice none 0 0,.slice none 0 0] (.t T.ss))).put O (.cells [.int .i64 0,.string ⟨#[]⟩,.slice none 0 0,.slice none 0 0,.slice none 0 0] (.t T.ss)):=⟨_,rfl⟩;have k6:K pm H5 H6:=by rw[Z,an];exact gh n _ _
  simp[n.pick,n.make,ptr, <-an,bh,bg,<-Z,setCells,aR,-v'];exact bb _ _ (K.trans k4 (K.trans k5 k6)) (by simp)
 obtain⟨_,_,_,rfl,M,aj,az⟩:=id hu;obtain⟨bJ,bK,e1,_⟩:=M.1.ex;obtain⟨bL,bM,e2,_⟩:=aj.1.ex;obtain⟨bN,bP,e3,_⟩:=az.1.ex;subst e1 e2 e3;obtain⟨H6,Z⟩:∃A,A=(H5.new (.cells [.int .i64 0,.string ⟨#[]⟩,.slice none 0 0,.slice none 0 0,.slice none 0 0] (.t T.ss))).put O (.cells [.int .i64 a.st,ak a.val,.slice bJ a.x.length bK,.slice bL a.d.length bM,.slice bN a.r.length bP] (.t T.ss)):=⟨_,rfl⟩;have k6:K pm H5 H6:=by rw[Z,an];exact gh n _ _
 have P:=k6.h;have aO:=K.trans k5 k6;have E:=K.trans k4 aO;have t8:H6.get O=some (.cells [.int .i64 a.st,ak a.val,.slice bJ a.x.length bK,.slice bL a.d.length bM,.slice bN a.r.length bP] (.t T.ss)):=by rw[Z];exact bO
 have t3:=k6.some n ct;have t4:=k6.some n cv;by_cases a1:a.st=1;rotate_left
 ·have M:(a.st==1)=false:=by simpa using a1
  simp[n.pick,n.make,ptr,bA,<-an,bh,bg,<-Z,setCells,t8,M,-v'];exact bb _ _ E (by simp)
 have M:(a.st==1)=true:=by simpa using a1
 have aj:=aN.ext (aO.ext g4);simp[n.pick,n.make,ptr,bA,<-an,bh,bg,<-Z,setCells,t8,M,t3,bB,-BB,-vX];refine al.of (aq:=[.agg #[.slice aA l.a.length aB,.slice aD l.rows.length aE]]) (DX G.r P aj m bf) ?_;rintro _ H7 ⟨p,Q,I,vb,rfl,aP⟩;have q:=p.h;have u3:=p.some P t3;have u4:=p.some P t4;have u8:=p.some P t8;have bQ:∀b i,dd (aZ b i)=true:=λb i=>by unfold aZ;split<;>rfl
 have cw:∀b i,(aZ b i).cells=#[aZ b i]:=λb i=>by unfold aZ;split<;>rfl
 obtain⟨_,_,_,cy⟩:=aP.b;obtain⟨k,aQ⟩:∃c,c=H7.next:=⟨_,rfl⟩;have bR:pm.may k=true:=q.may (by have:=p.next;have:=E.next;omega);have cz:∀x,(H7.new x).get k=some x:=λx=>by rw[aQ];exact cc
 obtain⟨d,aS⟩:∃A,A=(H7.new (.cells [.slice none 0 0,.slice none 0 0] (.t T.oz))).put k (.cells [aZ Q l.a.length,aZ I l.rows.length] (.t T.oz)):=⟨_,rfl⟩;have R:K pm H7 d:=by rw[aS,aQ];exact gh q _ _
 have t:=R.h;have ao:=K.trans p R;have n:d.next=k+1:=by rw[aS,aQ];rfl
 have bS:d.get k=some (.cells [aZ Q l.a.length,aZ I l.rows.length] (.t T.oz)):=by rw[aS];exact bO
 have w3:=R.some q u3;have w4:=R.some q u4;have w8:=R.some q u8;simp[q.pick,q.make,ptr, <-aQ,cz,bR, bQ,<-aS,setCells,-vX];obtain⟨z,hz⟩:∃z,z=d.next:=⟨_,rfl⟩;have kU:K pm d (d.up 13):=(K.refl t).up 13;have nU:(d.up 13).next=z+13:=by rw[hz];rfl
 have bj:=λj=>(by rw[hz];exact t.none j:(d.up 13).get (z+j)=none);have cA:=(by rw[hz];exact t.O:(d.up 13).get z=none);have cB:p4<z:=by rw[hz];exact t.lt w4
 have cC:k<z:=by omega
 obtain⟨A1,aG⟩:∃A,A=(d.up 13).put (z+3) (.cells [ak r.name,.int .i64 r.kind,.slice cb r.G.length ai,ak r.rhs,ak r.tw] (.n 5)):=⟨_,rfl⟩;have bl:K pm d A1:=by rw[aG];exact aC.fill kU (by omega) (bj 3) (by omega) _
 have cD:=bl.h;have n:A1.next=z+13:=by rw[aG];exact nU
 have bm:∀j,j≠3->A1.get (z+j)=none:=λj hj=>by rw[aG,a6];exact bj j
 have cE:A1.get (z+3)=some (.cells [ak r.name,.int .i64 r.kind,.slice cb r.G.length ai,ak r.rhs,ak r.tw] (.n 5)):=by rw[aG];exact bO
 have cF:sB A1 (.agg #[.slice none 0 0,.slice (some ⟨z+3,0,none⟩) 1 1]) ⟨[],[r]⟩:=by
  refine⟨_,_,rfl,⟨none,0,rfl,bc _,λ_=>rfl,λa e=>by cases e⟩,⟨_,_,rfl,bc _,λe=>(by cases e),λa e=>?_⟩⟩;cases e;refine⟨z+3,0,_,rfl,.inr cE,by simp,λi Y=>⟨_,?_,r,.slice cb r.G.length ai,?_,rfl,fS.imp cq ((K.trans aO (K.trans ao bl)).ext g4) λ_ _ _ h=>h⟩⟩
  ·obtain rfl:i=0:=by simpa using Y
   simp[bB];rfl
  ·obtain rfl:i=0:=by simpa using Y
   rfl
 simp[-tL];refine cx.of t.ah rfl ?_;rw[<-hz];simp[b8,bj,cA,bS,w4,bB,bA,setCells,Perm.make,Perm.pick,<-aG,bm,-tL];refine cY cD (aq:=[.agg #[.slice none 0 0,.slice (some ⟨z+3,0,none⟩) 1 1]]) (by simp[bm]) rfl (λcu n=>T9 G.tosw cu _ n _ ⟨[],[r]⟩ cF) ?_;rintro _ H9 k9 f9;have n:=k9.h;have n:=k9.next;have x9:∀j,j≠3->j<13->H9.get (z+j)=none:=λj hj h=>(k9.get _ (by omega)).trans (bm j hj);obtain⟨_,_,rfl,n,cG⟩:=f9.e;obtain⟨_,_,e,_⟩:=id n;subst e;obtain⟨bT,_,e,q0,q1⟩:=cG;subst e;obtain⟨n,cH⟩:∃n,bT=some n:=by
  cases bT with
  | none=>exact absurd (q0 rfl) (by simp[ar.cut])
  | some a=>exact⟨a,rfl⟩
 subst cH;obtain⟨_,cI,y,cJ,rfl,_,hy,cK,_,cL⟩:=q1 _ rfl;obtain⟨cs,bo,_,_,cM,rfl,bp⟩:=cL 0 (by simp[ar.cut]);cases cM;obtain⟨db,dc,e,_⟩:=id bp;subst e;rw[Nat.zero_mul,Nat.add_zero]at bo;obtain⟨s,bq⟩:∃s,s=r.cut:=⟨_,rfl⟩;rw[<-bq]at bo bp;have n:s.G.length<=1000:=by rw[bq];simp[b9.cut];omega
 obtain⟨xs,aT⟩:∃xs:List Value,xs=[ak s.name,.int .i64 s.kind,.slice db s.G.length dc,ak s.rhs,ak s.tw]:=⟨_,rfl⟩;have cN:bB cJ cI 5=some xs:=by rw[bo,aT];rfl
 have cO:(⟨[],[r]⟩:ar).cut.rows.length=1:=rfl;have br:xs.length=5:=by rw[aT];rfl
 have cP:xs.take 5=xs:=by rw[<-br];exact xj
 have cQ:xs.all dd=true:=by rw[aT];rfl
 obtain⟨A2,af⟩:∃A,A=H9.put (z+9) (.cells xs (.n 5)):=⟨_,rfl⟩;have n:K pm d H9:=K.trans bl k9;have aH:K pm d A2:=by rw[af];exact aC.fill n (by omega) (x9 9 (by decide) (by decide)) (by omega) _
 have cS:A2.get (z+9)=some (.cells xs (.n 5)):=by rw[af];exact bO
 have bV:A2.get (z+10)=none:=by rw[af,a6];exact x9 10 (by decide) (by decide)
 have cT:I<z:=by omega
 obtain⟨S,aU,bW⟩:∃S:List Value,(0<l.rows.length->d.get I=some (.cells S (.n 5))/\ey S 5 l.rows.length λi=>(l.row i).cells (aZ (vb i) (l.row i).G.length))/\(l.rows.length=0->S=[]):=by
  by_cases e:l.rows.length=0
  ·exact⟨[],λh=>by omega,λ_=>rfl⟩
  ·obtain⟨L,B,U⟩:=aP.w (by omega);exact⟨L,λ_=>⟨R.some q B,U⟩,λh=>absurd h e⟩
 have bX:H.next<=I:=by have:=E.next;omega
 have e1:=vL (H:=A2) (w:=5) (cR:=80) (c:=I) (i:=l.rows.length) (ah:=pm.ah) (fJ:=pm.ok) (b:=z+10) (ch:=S) (xs:=xs) (λh=>⟨aH.some t (aU h).1,(aU h).2.1,ej (a8 g.ah bX)⟩) bW cQ;obtain⟨A3,ag⟩:∃A,A=(ia A2 I l.rows.length).put (z+10) (.cells (S++xs) (.n 5)):=⟨_,rfl⟩;rw[<-ag]at e1;have cV:∀j,j≠3->j≠9->j≠10->j<13->A3.get (z+j)=none:=λj B U _ n=>by rw[ag,a6,ib (λ_=>by omega),af,a6];exact x9 j B n
 have bY:A3.get k=some (.cells [aZ Q l.a.length,aZ I l.rows.length] (.t T.oz)):=by rw[ag,a6,ib (λ_=>by omega)];exact aH.some t bS
 obtain⟨f,au⟩:∃A,A=A3.put k (.cells [aZ Q l.a.length,aZ (z+10) (l.rows.length+1)] (.t T.oz)):=⟨_,rfl⟩;have n:=λo=>ej (ah:=pm.ah) (ok:=pm.ok) (o:=o) (b:=k) (by have:=t.ah;have:=g.ah;have:=E.next;have:=p.next;omega);have M:c6 [z+3] [k]=true:=gd (by omega);have Z:c6 [z+9] [k]=true:=gd (by omega);obtain⟨ai,aj⟩:=sX cN;simp[x9,cO,hy,cK,ai,<-aj,br,cP, bB,bA,setCells,Perm.make,Perm.pick,<-af,bV,cS,e1,cV,bY,cw,bQ,n,<-au,b3,bZ,fT,cU,dj,M,Z,cC,cB,-tL];refine⟨⟨.inl (.inl (.inr (by omega))),λx n=>.inl (.inl (.inl (vJ (λ_=>cT) n)))⟩,?_⟩;have bs:K pm H f:=by
  have u2:aC pm H.next d A2:=aH.mono (by have:=E.next;have:=ao.next;omega);have u3:aC pm H.next d A3:=by
   rw[ag];exact aC.fill (aC.ia u2 λh=>⟨bX,aH.some t (aU h).1⟩) (by have:=E.next;have:=ao.next;omega) (by rw[ib (λ_=>by omega)];exact bV) (by rw[rb,af];show z+10<H9.next;omega) _
  have u4:aC pm H.next d f:=by rw[au];exact aC.put u3 (by have:=E.next;have:=ao.next;omega) bY (by simp) _
  exact aC.trans E (aC.trans (ao.mono E.next) u4)
 have av:=bs.h;have aI:∀b y,b≠I->b≠k->d.get b=some y->f.get b=some y:=λb y B U h=>by
  have:=t.lt h;rw[au,a6 (h:=U),ag,a6,ib (λ_=>B)];exact aH.some t h
 have cW:∀b y,z+13<=b->H9.get b=some y->f.get b=some y:=λb y B h=>by
  rw[au,a6,ag,a6,ib (λ_=>by omega),af,a6];exact h
 have d:∀b y,W.get b=some y->f.get b=some y:=λb y h=>by
  have a:=aO.some g4 h;have:=P.lt a;exact aI b y (by omega) (by have:=p.next;omega) (ao.some P a)
 have cZ:=aN.ext d;have b0:f.get k=some (.cells [aZ Q l.a.length,aZ (z+10) (l.rows.length+1)] (.t T.oz)):=by rw[au];exact bO
 have d:=P.lt t3;have d:=P.lt t8;have c0:f.get J=_:=aI J _ (by omega) (by have:=p.next;omega) w3;have b2:f.get O=_:=aI O _ (by omega) (by have:=p.next;omega) w8;have c1:f.get (z+10)=some (.cells (S++xs) (.n 5)):=by rw[au,a6,ag];exact bO
 have c2:ey (S++xs) 5 (l.rows.length+1) λi=>if i=l.rows.length then xs else(l.row i).cells (aZ (vb i) (l.row i).G.length):=by
  refine ey.app ?_ br;by_cases e:l.rows.length=0
  ·rw[bW e,e];exact⟨rfl,λj hj=>absurd hj (gS _)⟩
  ·exact(aU (by omega)).2
 have c3:dE f (.slice db s.G.length dc) s.G.length 2 λi cs=>∃c,s.G[i]? = some c/\cs=c.cells:=by
  have h:ds f A1.next (.slice db s.G.length dc) s.G.length 2 (sx s.G):=bp.W5 (λb y _ e=>cW b y (by omega) e) λ_ _ _ h=>h;exact h.aZ
 have c4:kA f (.agg #[aZ Q l.a.length,aZ (z+10) (l.rows.length+1)]) (l.qY s):=by
  refine⟨_,_,rfl,?_,?_⟩
  ·show hO f (aZ Q l.a.length) l.a;exact ey.nd (λh=>by
    obtain⟨L,B,U⟩:=aP.c h;exact⟨L,aI _ _ (by omega) (by omega) (R.some q B),U⟩) λi Y=>⟨_,ar.kc Y,rfl⟩
  ·show dE f (aZ (z+10) (l.rows.length+1)) (l.rows++[s]).length 5 _;rw[o4];refine ey.nd (λ_=>⟨_,c1,c2⟩) λi Y=>?_;by_cases b:i=l.rows.length
   ·subst b;exact⟨s,.slice db s.G.length dc,by show(l.rows++[s])[l.rows.length]? = some s;simp,by rw[aL rfl,aT];rfl,c3⟩
   ·have a:i<l.rows.length:=by omega
    refine⟨l.row i,aZ (vb i) (l.row i).G.length,by show(l.rows++[s])[i]? = some (l.row i);rw[hY a];exact ar.rowAt a,by rw[aw b],?_⟩;exact ey.nd (λh=>by
     obtain⟨L,B,U⟩:=aP.v i a h;have:=cy i a;have a:=q.lt B;exact⟨L,aI _ _ (by omega) (by omega) (R.some q B),U⟩) λbF a=>⟨_,by rw[e5,en a];rfl,rfl⟩
 have aV:c5 (l.qY s):=by
  refine⟨m.n,by simp[ar.qY];omega,m.c,λb a=>?_⟩
  rcases fc.1 a with a | a
  ·exact m.r b a
  ·obtain rfl:=mV.1 a;rw[bq];simp only[b9.cut,l6,rU];refine⟨by omega,by omega,λc hc=>?_⟩;obtain⟨c,_,rfl⟩:=gl.1 hc;simp only[l6];omega
 simp[b0,bB,bA,  -BA,-Bv,-nh];refine al.of (aq:=[.agg #[aZ Q l.a.length,aZ (z+10) (l.rows.length+1)]]) (MZ G.tofC av aV.ok c4 (λN=>Jo aV N)) ?_;rintro _ HB ⟨kB,hB⟩;have gB:=kB.h;obtain⟨aJ,aK⟩:∃c,c=HB.next:=⟨_,rfl⟩;have b4:pm.may aJ=true:=gB.may (by have:=bs.next;have:=kB.next;omega);have b5:∀x,(HB.new x).get aJ=some x:=λx=>by rw[aK];exact cc
 have bt:∀(L:bn) (V:ae),K pm f V->Sub [(2,.int .i64 ad),(3,.pointer (some ⟨J,0,none⟩)),(8,.pointer (some ⟨O,0,none⟩)),(10,.pointer (some ⟨k,0,none⟩))] L->wp X pm (.code C.nh) L V [] bz:=λL V D d=>
  FC G D.h m bf N ax a1 (D.some av c0) (cZ.ext (D.ext av)) (D.some av b2) (D.some av b0) bR d (by have:=E.next;have:=p.next;omega) (K.trans bs D) bb
 rcases hB with⟨Br,rfl⟩ | ⟨Br,b,u,rfl,F2,EJ⟩
 ·obtain⟨V,ay⟩:∃A,A=(HB.new (.cells [.int .i64 0,.string ⟨#[]⟩,.slice none 0 0,.slice none 0 0,.slice none 0 0] (.t T.tC))).put aJ (.cells [.int .i64 0,.string ⟨#[]⟩,.slice none 0 0,.slice none 0 0,.slice none 0 0] (.t T.tC)):=⟨_,rfl⟩;have D:K pm HB V:=by rw[ay,aK];exact gh gB _ _
  simp[gB.pick,gB.make,ptr, <-aK,b5,b4,<-ay,setCells,aR,-su,-nh];refine al.not ?_;simp[aR,-nh];exact bt _ _ (K.trans kB D) (by simp)
 obtain⟨_,_,_,rfl,d,e,f⟩:=id F2;obtain⟨b6,b7,e1,_⟩:=d.1.ex;obtain⟨b_,ca,e2,_⟩:=e.1.ex;obtain⟨cd,cf,e3,_⟩:=f.1.ex;subst e1 e2 e3;obtain⟨V,ay⟩:∃A,A=(HB.new (.cells [.int .i64 0,.string ⟨#[]⟩,.slice none 0 0,.slice none 0 0,.slice none 0 0] (.t T.tC))).put aJ (.cells [.int .i64 b.st,ak b.val,.slice b6 b.x.length b7,.slice b_ b.d.length ca,.slice cd b.r.length cf] (.t T.tC)):=⟨_,rfl⟩;have D:K pm HB V:=by rw[ay,aK];exact gh gB _ _
 have j:=D.h;have bu:=K.trans kB D;have d:V.get aJ=some (.cells [.int .i64 b.st,ak b.val,.slice b6 b.x.length b7,.slice b_ b.d.length ca,.slice cd b.r.length cf] (.t T.tC)):=by rw[ay];exact bO
 have k:=bu.some av b2;obtain⟨e,_⟩:=fZ.ga m N ax;obtain⟨f,_⟩:=fZ.ga aV Br EJ;obtain⟨n,p⟩:=Gp e a1 f;have f:(b.st==3)=false:=by simpa using n
 simp[gB.pick,gB.make,ptr,bA,<-aK,b5,b4,<-ay,setCells,d,f, -su,-nh];by_cases b1:b.st=1
 ·have c:(b.st==1)=true:=by simpa using b1
  obtain⟨c,h⟩:=p b1;obtain⟨_,f,_⟩:=si e a1;have e:=(DO m N ax a1).1;have g:=(DO aV Br EJ b1).1;rw[f]at e;rw[c]at g;simp[b1, d,k,f,c,-su,-nh];refine al.of (aq:=[ak (bk (l.P (bU b.x))),ak (bk (l.P (bU a.x)))]) (Fj G.towD j g e) ?_;rintro _ _ ⟨i,rfl⟩;have c:¬iF (l.P (bU b.x)) (l.P (bU a.x))<0:=by
   rw[kb];exact fy.2 h
  simp[c,-nh];exact bt _ _ (K.trans bu i) (by simp)
 ·have a:(b.st==1)=false:=by simpa using b1
  simp[a, aR,-su,-nh];refine al.not ?_;simp[aR,-nh];exact bt _ _ bu (by simp)
end Go.Dam.C
namespace Go.Dam.C
open Go Go.Dam
theorem FD{X:aA}{pm:Perm}{H:ae}(a:rY X)(g:bl pm H){v w:Value}{aa:ar}{r:b9}{ad:Int}(b:sB H v aa)(c:sy H w r):Call X pm F.q4 [v,w,.int .i64 ad] H λr ab=>K pm H ab/\r=.bool true:=by
 obtain⟨_,rfl,h⟩:=c;exact FE a g b h
end Go.Dam.C
