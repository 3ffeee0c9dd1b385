/- What the functions of the program compute, for every input. -/
import Derived.Test.YtpkkkofoeplceaaGreatDoorLawC
import Derived.Test.YtpkkkofoeplceaaGreatDoorLawB
import Derived.Deep.Slices
import Derived.SliceStrings
namespace Go.Dam.C
open Go Go.Dam
variable{X:aA}{pm:Perm}{H ab bX ai:ae}{n:Nat}
theorem fB.at{v:Value}{k n:Nat}(h:fB H v k n)(d:∀z c,v=.slice (some ⟨z,0,none⟩) k c->∀y,H.get z=some y->ab.get z=some y):fB ab v k n:=by
 obtain⟨b,a,rfl,c,e⟩:=h.row;exact⟨h.kS,b,a,rfl,c,e.imp id λ⟨b,y,e,c,f,g⟩=>⟨b,y,e,c,d b a (by rw[c]) y f,g⟩⟩
theorem Hq(g:bl pm H){h:Option Addr}{k cap n d:Nat}(j:mO H h k n)(s:k<1000000):
 ∃z ab,(fz 1 (.slice h k cap) λnew m=>fj 1 8 (.slice (some ⟨H.next,0,none⟩) 1 1) new m).run pm (H.new (.cells [.int .i64 (d:Int)] (.n 1)))=some (.slice (some ⟨z,0,none⟩) (k+1) (k+1),ab)/\K pm H ab/\H.next<=z/\
  ab.get z=some (.cells (ep (λi=>if i=0 then(d:Int) else rg n (i-1)) (k+1)) (.n 1)):=by
 have a:=K.new g (.cells [.int .i64 (d:Int)] (.n 1));have l:=a.h;have o:(H.new (.cells [.int .i64 (d:Int)] (.n 1))).get H.next=some (.cells [.int .i64 (d:Int)] (.n 1)):=cc;have p:∀k:Nat,ep (λi=>if i=0 then(d:Int) else rg n (i-1)) (k+1)=.int .i64 (d:Int)::ep (λi=>(rg n i:Int)) k:=λk=>by
  unfold ep;rw[List.range_succ_eq_map,zQ,List.map_map];rfl
 by_cases c:k=0
 ·subst c;refine⟨H.next,_,?_,a,bc _,by rw[p];exact o⟩;unfold fz fj
  rcases j with⟨rfl,_⟩ | ⟨x,y,row,rfl,g1,g2,_⟩
  ·simp
  ·simp[a.some g g1,g2,bB]
 ·obtain⟨_,y,row,rfl,m,q,h⟩:=j.get c;have r:=FO (f:=λi=>(rg n i:Int)) h (FW (f:=λi=>.int .i64 (rg n i:Int)) h);obtain⟨b,e⟩:∃A,A=(H.new (.cells [.int .i64 (d:Int)] (.n 1))).put H.next .dead:=⟨_,rfl⟩;have h:K pm H b:=by rw[e];exact aC.put a (bc _) o (by simp) _
  have f:b.next=H.next+1:=by rw[e];rfl
  refine⟨b.next,b.new (.cells (.int .i64 (d:Int)::ep (λi=>(rg n i:Int)) k) (.n 1)),?_,aC.new h (by omega) _,by omega,by rw[p];exact cc⟩;have b:pm.may H.next=true:=g.may (bc _);unfold fz;simp only[bf.run,a.some g m,q,Nat.mul_one,r];unfold fj;simp[FQ,c, show(k+1)*8<=17179869184 by omega,show k<=17179869183 by omega,b,<-e,Nat.add_comm 1 k,l.make,l.pick,bB,]
section
variable{iB dv b ρ:Nat}{w r v0 v6 yU:Value}
theorem HA(m:NE X)(g:bl pm H)(n:fB H w iB b)(t:fB H r dv ρ)(j:iB<90000)(j:dv<900000)(b7:b<=ρ)(cH:ρ<b*10000){l:bn}{aD:List Fr}{R:cl}
 (j:Sub [(0,v0),(1,w),(6,v6),(7,r),(8,yU),(9,.int .i64 1),(10,.int .i64 10000)] l)
 (u:∀aU ab (low:Nat),Sub [(0,v0),(1,w),(6,v6),(7,r),(8,yU),(9,.int .i64 (low:Int))] aU->K pm H ab->1<=low->low<10000->b*low<=ρ->ρ<b*(low+1)->wp X pm (.code wA) aU ab aD R):
 wp X pm (.code x4) l H aD R:=by
 simp[-A3,-wA];refine fh.of (σ:=Nat×Nat) (λs=>[(0,v0),(1,w),(6,v6),(7,r),(8,yU),(9,.int .i64 (s.1:Int)),(10,.int .i64 (s.2:Int))]) (λs ab=>K pm H ab/\s.1<s.2/\1<=s.1/\s.2<=10000/\b*s.1<=ρ/\ρ<b*s.2) (λs=>s.2-s.1) (1,10000) (by simpa using j) ⟨K.refl g,by decide,by decide,by decide,by simpa using b7,cH⟩ ?_;rintro⟨low,c⟩ d ⟨e,j,f,o,h,i⟩;simp only at j f o h i|-;obtain⟨D,_⟩:∃D,D=c-low:=⟨_,rfl⟩;have p:wr .i64 ((c:Int)-(low:Int))=(D:Int):=by rw[cE];omega
 by_cases q:1<D
 ·obtain⟨S,_⟩:∃S,S=low+c:=⟨_,rfl⟩;obtain⟨a,_⟩:∃j,j=S/2:=⟨_,rfl⟩;have v:wr .i64 ((low:Int)+(c:Int))=(S:Int):=by rw[cE];omega
  have x:wr .i64 ((S:Int)/2)=(a:Int):=by rw[cE];omega
  have j:=e.h;have y:(d.new (.cells [.int .i64 (a:Int)] (.n 1))).get d.next=some (.cells [.int .i64 (a:Int)] (.n 1)):=cc;have l:=K.new j (.cells [.int .i64 (a:Int)] (.n 1));have s:=K.trans e l;simp[p,q,v,x,j.make,j.pick,fill,setCells,-Bv];refine al.of (aq:=[w,.slice (some ⟨d.next,0,none⟩) 1 1]) (wz m l.h (n.ext (s.ext g)) (fB.one y (by omega) (by omega))) ?_;rintro j l ⟨v,x,d,_⟩;have y:x<=iB+1:=d.kS.le (by
   rw[eB];exact Nat.mul_lt_mul'' n.kS.1 (by omega))
  have k:=K.trans s v;simp[-Bu];refine al.of (aq:=[j,r]) (xu m d (t.ext (k.ext g)) (by omega) (by omega)) ?_;rintro _ l ⟨rfl,rfl⟩;by_cases d:ρ<b*a
  ·simp[d];refine kt.of (low,a) ?_ (by simp) ⟨k,by show low<a;omega,f,by show a<=10000;omega,h,d⟩;show a-low<c-low;omega
  ·simp[d];refine kt.of (a,c) ?_ (by simp) ⟨k,by show a<c;omega,by show 1<=a;omega,o,by show b*a<=ρ;omega,i⟩;show c-a<c-low;omega
 ·have a:c=low+1:=by omega
  simp[p,q,-wA];refine u _ _ low ?_ e f (by omega) h (a▸i);simp
end
def Gj(pm:Perm)(H:ae)(p c a b:Nat)(s:Nat×Value)(ab:ae):Prop:=K pm H ab/\p<ab.next/\s.1<=c/\∃f d,ab.get p=some (.cells (ep f c) (.n 1))/\(∀j,j<s.1->f j=0)/\(∀j,j<c->0<=f j/\f j<10000)/\rs f c=((a/10000^s.1/b*10000^s.1:Nat):Int)/\fB ab s.2 d (a/10000^s.1%b)
theorem HC(k:NE X)(g:bl pm H){v w:Value}{e o a b:Nat}(R:fB H v e a)(q:fB H w o b)(aI:e<90000)(hb:o<90000)(S:0<b):
 Call X pm F.rX [v,w] H λr ab=>K pm H ab/\∃T U I k2,r=.tuple #[T,U]/\fB ab T I (a/b)/\fB ab U k2 (a%b):=by
 refine Call.W k.rX rfl λ_ hQ=>?_;have V:=R.kS;obtain⟨W,Y,rfl,_,h1⟩:=R.row;have J:=nO (pm:=pm) (H:=H) g.tock (Ut:=H) (z:=[.int .i64 0]) (bytes:=8) (c:=e);rw[yC]at J;obtain⟨p,L⟩:∃p,p=H.next:=⟨_,rfl⟩;obtain⟨x,y⟩:∃M,M=H.new (.cells (ep (λ_=>0) e) (.n 1)):=⟨_,rfl⟩;have I:K pm H x:=by rw[y];exact K.new g _
 have R:x.get p=some (.cells (ep (λ_=>0) e) (.n 1)):=by rw[y,L];exact cc
 have T:x.next=p+1:=by rw[y,L];rfl
 simp only[List.length_singleton,<-L,<-y]at J;have af:pm.may p=true:=g.may (by omega);have y:wr .i64 ((e:Int)-1)=(e:Int)-1:=cE;simp[y,J,-A8,-Bc]
 refine fh.of (σ:=Nat×Value) (λs=>[(0,.slice W e Y),(1,w),(6,.slice (some ⟨p,0,none⟩) e e),(7,s.2),(8,.int .i64 ((s.1:Int)-1))])
  (Gj pm H p e a b) (λs=>s.1) (e,.slice none 0 0) (by simp) ⟨I,by omega,bc _,_,0,R,λ_ _=>rfl,λ_ _=>by decide,?_,?_⟩ ?_
 ·show rs (λ_=>0) e=((a/10000^e/b*10000^e:Nat):Int);rw[u4 V.1,xl (Nat.zero_le e) λ_ _ _=>rfl];simp[rs]
 ·show fB x (.slice none 0 0) 0 (a/10000^e%b);rw[u4 V.1,Nat.zero_mod];exact .nil
 rintro⟨s,r⟩ ag ⟨A,_,x,f,l,Z,B,O,C,t⟩;simp only at x B C t|-;have D:=A.h;have x:l<=o:=t.kS.le (Nat.lt_trans (o1 _ S) q.kS.1)
 cases s with
 | zero=>
   simp;refine al.of (aq:=[.slice (some ⟨p,0,none⟩) e e]) (vX k (N:=a/b) Z O (by simpa using C)) ?_;rintro u ag ⟨rfl,c,_,d⟩;simp;refine hQ _ _ _ ?_;simp;exact⟨A,u,r,⟨rfl,rfl⟩,⟨c,d⟩,l,by simpa using t⟩
 | succ j=>
   obtain⟨_,cr,rfl,_,ah⟩:=t.row;obtain⟨ai,aj,_,rfl,s,d2,d3⟩:=h1.get (by omega);have ak:=A.some g s;have r:j<e:=by omega
   have X:wr .i64 ((j:Int)-1)=(j:Int)-1:=cE;obtain⟨z,HB,e3,P,_,gB⟩:=Hq D (cap:=cr) (d:=rg a j) ah (by omega);have E:=K.trans A P;have Q:=E.h;have pB:=P.some D Z;obtain⟨ρ,h⟩:∃s,s=a/10000^(j+1)%b:=⟨_,rfl⟩;rw[<-h]at gB;have s:=F0 (g:=λi=>(rg ρ i:Int)) (d:=(rg a j:Int)) l;have x:rs (λi=>if i=0 then(rg a j:Int) else rg ρ (i-1)) (l+1)=((rg a j+10000*ρ:Nat):Int):=by
    rw[s,Fz,n1 (by have:=t.kS.1;rwa [h])];simp
   have aa:=Fx a j;simp[r,ak,d2,d3 j r,D.make,D.pick,fill,setCells,e3,-fz,-Bo,-ug];refine al.of (aq:=[.slice (some ⟨z,0,none⟩) (l+1) (l+1)]) (vX k (N:=rg a j+10000*ρ) gB (λi _=>?_) x) ?_
   ·have b:=@lD a j;have b:=@lD ρ (i-1);show 0<=(if i=0 then(rg a j:Int) else rg ρ (i-1))/\(if i=0 then(rg a j:Int) else rg ρ (i-1))<10000;split<;>omega
   rintro u HB ⟨rfl,F,an,v⟩;have ab:=q.ext (E.ext g);have l:ρ<b:=by rw[h];exact o1 _ S
   have ad:rg a j+10000*ρ<b*10000:=by have:=@lD a j;omega
   have l:F<=o+1:=v.kS.le (by
    rw[eB];exact fK ad (fV _ (I5 q.kS.1)))
   simp[-Br,-Bk,-ug];refine al.of (aq:=[u,w]) (xu k v ab (by omega) (by omega)) ?_;rintro _ HB ⟨rfl,rfl⟩;by_cases l:rg a j+10000*ρ<b
   ·obtain⟨c,d⟩:=Hx aa (n:=b) (by rw[<-h];exact l);simp[l,X];refine kt.of (j,u) (qq j) (by simp) ⟨E,by have:=P.next;omega,by show j<=e;omega,f,F,pB,λi g=>B i (by have:i<j:=g;omega),O,?_,?_⟩
    ·show rs f e=((a/10000^j/b*10000^j:Nat):Int);rw[C,c,eB];congr 1;ac_rfl
    ·show fB _ u F (a/10000^j%b);rw[d,<-h];exact v
   ·simp[l,-x4,-ug];refine HA (v0:=.slice (some ⟨ai,0,none⟩) e Y) (v6:=.slice (some ⟨p,0,none⟩) e e) (yU:=.int .i64 (j:Int)) k Q ab v hb (by omega) (by omega) ad (by simp) ?_;intro _ s low l z W b2 b3 t;simp at l;obtain⟨l0,l1,l6,l7,l8,l9⟩:=l;obtain⟨t1,t2⟩:=Hw aa (n:=b) (low:=low) (by rw[<-h];exact b3) (by rw[<-h];exact t);have l:=z.h;have pC:=z.some Q pB;have ao:=K.trans E z;have ar:setCells (ep f e) j [.int .i64 (low:Int)]=some (ep (cS f j low) e):=m' r;obtain⟨m,G⟩:∃M,M=s.put p (.cells (ep (cS f j low) e) (.n 1)):=⟨_,rfl⟩;have N:K pm H m:=by rw[G];exact aC.put ao (by omega) pC (by simp) _
    have d:=N.h;have pD:m.get p=some (.cells (ep (cS f j low) e) (.n 1)):=by rw[G];exact bO
    have au:fB m u F (rg a j+10000*ρ):=(v.ext (z.ext Q)).at λ_ c n aj hy=>by
     rw[an]at n;cases n;rw[G,a6 (by omega)];exact hy
    have p:=q.ext (N.ext g);have s:(m.new (.cells [.int .i64 (low:Int)] (.n 1))).get m.next=some (.cells [.int .i64 (low:Int)] (.n 1)):=cc;have l:=K.new d (.cells [.int .i64 (low:Int)] (.n 1));have t:setCells [.int .i64 0] 0 [.int .i64 (low:Int)]=some [.int .i64 (low:Int)]:=rfl;simp[l1,l6,l7,l8,l9,r,pC,ar,af,<-G,d.make,d.pick,fill,t,-setCells_one,-Bt,-ug];refine al.of (a':=by simp) (aI:=by simp) (aq:=[w,.slice (some ⟨m.next,0,none⟩) 1 1]) (wz k l.h (p.ext (l.ext d)) (fB.one s (by omega) (by omega))) ?_;rintro t _ ⟨m,v,p,_⟩;have s:=K.trans l m;have l:v<=o+1:=p.kS.le (by
     rw[eB];exact Nat.mul_lt_mul'' q.kS.1 b2)
    simp[-Bs,-ug];refine al.of (a':=by simp) (aI:=by simp) (aq:=[u,t]) (zo k m.h (au.ext (s.ext d)) p (by omega) (by omega) b3) ?_;rintro u' _ ⟨l,ae,av,_⟩;have k:=K.trans s l;simp[  l8,X];refine kt.of (j,u') (qq j) (by simp[l0,l1,l6]) ⟨K.trans N k,?_,by show j<=e;omega,cS f j low,ae,k.some d pD,λi H=>?_,λi H=>?_,?_,?_⟩
    ·have:=d.lt pD;have:=k.next;omega
    ·have H:i<j:=H;rw[hU (by omega)];exact B i (by omega)
    ·by_cases n:i=j
     ·subst n;rw[j6];omega
     ·rw[hU n];exact O i H
    ·show rs (cS f j low) e=((a/10000^j/b*10000^j:Nat):Int);rw[ny r,C,t1,B j (by omega),eB,rP];simp;grind
    ·show fB _ u' ae (a/10000^j%b);rw[t2,<-h];exact av
theorem HD(l:NE X)(g:bl pm H){v w:Value}{f h a b:Nat}(x:fB H v f a)(y:fB H w h b)(aI:f<90000)(z:h<90000):Call X pm F.oz [v,w] H λr ab=>K pm H ab/\∃k,fB ab r k (Nat.gcd a b):=by
 refine Call.W l.oz rfl λ_ A=>?_;simp[-Bw,-Bx];refine fh.of (σ:=(Value×Value)×(Nat×Nat)) (λs=>[(0,s.1.1),(1,s.1.2)]) (λs ab=>K pm H ab/\(∃k,k<90000/\fB ab s.1.1 k s.2.1)/\(∃k,k<90000/\fB ab s.1.2 k s.2.2)/\Nat.gcd s.2.1 s.2.2=Nat.gcd a b) (λs=>s.2.2) ((v,w),(a,b)) (by simp) ⟨K.refl g,⟨f,aI,x⟩,⟨h,z,y⟩,rfl⟩ ?_;rintro⟨⟨B,_⟩,⟨m,n⟩⟩ _ ⟨i,⟨C,D,j⟩,⟨d,o,c⟩,e⟩;simp only at j c e|-;have p:=i.h;obtain⟨q,r,rfl,_,_⟩:=c.row;by_cases t:d=0
 ·subst t;obtain rfl:n=0:=c.kS.od.1 rfl;simp;refine A _ _ _ ?_;simp;rw[Nat.gcd_zero_right]at e;exact⟨i,C,e▸j⟩
 ·have g:0<n:=qo λf=>t (c.kS.od.2 f);simp[show 0<d by omega,-By];refine al.of (aq:=[B,.slice q d r]) (HC l p j c D o g) ?_;rintro _ _ ⟨k,_,v,_,u,rfl,_,f⟩;have h:u<=d:=f.kS.le (Nat.lt_trans (o1 _ g) c.kS.1);simp;refine kt.of ((.slice q d r,v),(n,m%n)) ?_ (by simp) ⟨K.trans i k,⟨d,o,c.ext (k.ext p)⟩,⟨u,by omega,f⟩,?_⟩
  ·exact o1 _ g
  ·show Nat.gcd n (m%n)=Nat.gcd a b;rw[<-e,ql m n,Nat.gcd_rec n m,ql]
structure oy(X:aA):Prop extends NE X where
 nD:Has X F.nD C.nD
 sN:Has X F.sN C.sN
 rY:Has X F.rY C.rY
 sy:Has X F.sy C.sy
 sM:Has X F.sM C.sM
 qg:Has X F.qg C.qg
 qa:Has X F.qa C.qa
structure nC(H:ae)(v:Value)(k:Nat)(neg:Bool)(n d:Nat):Prop where
 ex:∃F3 F2 FT FR,v=.agg #[.bool neg,F3,F2]/\fB H F3 FT n/\fB H F2 FR d/\FT<=k/\FR<=k
 d:0<d
 s:neg=true->0<n
theorem nC.ext{v:Value}{k n d:Nat}{neg:Bool}(h:nC H v k neg n d)(e:Ext H ab):nC ab v k neg n d:=by
 obtain⟨a,b,c,d,rfl,f,g,i,j⟩:=h.ex;exact⟨⟨a,b,c,d,rfl,f.ext e,g.ext e,i,j⟩,h.d,h.s⟩
theorem wo(y:oy X)(g:bl pm H){f h:Value}{b n:Nat}{neg:Bool}(m:fB H f b n){w c:Nat}{i:Option Addr}(z:h=.slice i w c):
 Call X pm F.nD [.bool neg,f,h] H λr ab=>K pm H ab/\r=.agg #[.bool (neg&&!decide (n=0)),f,h]:=by
 refine Call.W y.nD rfl λ_ o=>?_;subst z;have f:=m.kS.od;obtain⟨q,s,rfl,_,_⟩:=m.row;obtain⟨p,j⟩:∃p,p=H.next:=⟨_,rfl⟩;have t:pm.may p=true:=g.may (by omega);have u:(neg&&decide (0<b))=(neg&&!decide (n=0)):=by
  congr 1;rw[<-decide_not];exact decide_eq_decide.2 (by omega)
 obtain⟨k,d⟩:∃A,A=H.new (.cells [.bool false,.slice none 0 0,.slice none 0 0] (.t T.yh)):=⟨_,rfl⟩;have B:K pm H k:=by rw[d];exact K.new g _
 have l:k.get p=some (.cells [.bool false,.slice none 0 0,.slice none 0 0] (.t T.yh)):=by rw[d,j];exact cc
 obtain⟨v,a⟩:∃A,A=k.put p (.cells [.bool (neg&&!decide (n=0)),.slice q b s,.slice i w c] (.t T.yh)):=⟨_,rfl⟩;have x:K pm H v:=by rw[a];exact aC.put B (by omega) l (by simp) _
 have e:v.get p=some (.cells [.bool (neg&&!decide (n=0)),.slice q b s,.slice i w c] (.t T.yh)):=by rw[a];exact bO
 cases neg
 ·simp at a e;simp[g.make,g.pick,ptr,<-j,<-d,aR,l,fill,setCells,t,<-a];refine o _ _ _ ?_;simp[ft,e,bB,bA];exact x
 ·simp at u a e;simp[g.make,g.pick,ptr,<-j,<-d,aR,l,fill,setCells,t,u,<-a];refine o _ _ _ ?_;simp[ft,e,bB,bA];exact x
theorem Ht(c:UInt8)(t:List UInt8):dV (c::t)=(c.toNat-48)*10^t.length+dV t:=by
 have:=Gt [c] t;simpa [dV,oD]using this
theorem Hu{l:List UInt8}{j:Nat}(h:j<l.length):dV (l.drop j)=(l[j].toNat-48)*10^(l.length-(j+1))+dV (l.drop (j+1)):=by
 rw[List.drop_eq_getElem_cons h,Ht];simp
def FC(pm:Perm)(ai:ae)(l:List UInt8)(s:Nat×Value×Nat×Nat)(H:ae):Prop:=
 K pm ai H/\s.1<=l.length/\∃q f o,pF H s.2.1 1 q (ep f q) o/\(∀c,o=some c->ai.next<=c/\pm.may c=true)/\(∀j,j<q->0<=f j/\f j<10000)/\rs f q+(s.2.2.2:Int)*10000^q=(dV (l.drop s.1):Int)/\q<=l.length/\
   (s.1=0->s.2.2.2=0/\q≠0)/\(s.1≠0->∃e,l.length-s.1=4*q+e/\e<4/\s.2.2.1=10^e/\s.2.2.2<10^e)
theorem FF(P:oy X)(g:bl pm H){l:List UInt8}(w:ie l=true):Call X pm F.qg [ak l] H λr ab=>K pm H ab/\∃b k c,r=.tuple #[.slice (some ⟨b,0,none⟩) k c,.bool true]/\H.next<=b/\fB ab (.slice (some ⟨b,0,none⟩) k c) k (dV l):=by
 refine Call.W P.qg rfl λae hQ=>?_;unfold ie at w;simp[cJ]at w;obtain⟨y,Q,R,L⟩:=w;have af:∀j (o:j<l.length),48<=l[j].toNat/\l[j].toNat<=57:=λj o=>by
  have:=L _ (tn o);simpa [gL,cJ]using this
 have w:0<l.length:=by
  cases l with
  | nil=>exact absurd rfl y
  | cons=>simp
 have w0:wr .i64 ((l.length:Int)-1)=(l.length:Int)-1:=cE;have S:∀L:bn,aF 0 L=some (ak l)->wp X pm (.code wB) L H [] ae:=by
  intro L w;simp[w,w0,-Bz,-BA]
  refine fh.of (σ:=Nat×Value×Nat×Nat) (λs=>[(0,ak l),(4,s.2.1),(5,.int .i64 (s.2.2.1:Int)),(6,.int .i64 (s.2.2.2:Int)),(7,.int .i64 ((s.1:Int)-1))]) (FC pm H l) (λs=>s.1) (l.length,.slice none 0 0,1,0) (by simp[w])
   ⟨K.refl g,bc _,0,λ_=>0,none,⟨rfl,rfl,rfl⟩,by simp,by simp,by simp[rs,dV,oD],Nat.zero_le _,λe=>absurd e (by show l.length≠0;omega),λ_=>⟨0,by simp,by decide,rfl,by show 0<10^0;simp⟩⟩ ?_
  rintro⟨s,T,W,U⟩ a ⟨b,w,q,f,V,i,z,A,B,hq,X,Y⟩;simp only at w i B X Y|-
  cases s with
  | zero=>
    obtain⟨rfl,d⟩:=X rfl
    cases V with
    | none=>exact absurd i.1 d
    | some c=>
      obtain⟨rfl,_,d⟩:=i;simp;refine al.of (aq:=[.slice (some ⟨c,0,none⟩) q q]) (vX P.toNE (N:=dV l) d A (by simpa using B)) ?_;rintro _ a ⟨rfl,k,rfl,e⟩;simp;refine hQ _ _ _ ?_;simp;exact⟨b,c,k,q,⟨rfl,rfl,rfl⟩,(z c rfl).1,e⟩
  | succ j=>
    obtain⟨e,Z,_,p,e4⟩:=Y (Nat.succ_ne_zero j);have k:j<l.length:=by omega
    obtain⟨_,_⟩:=af j k;obtain⟨x,hx⟩:∃x,x=l[j].toNat-48:=⟨_,rfl⟩;have C:=Hu k;rw[<-hx]at C;have s:10^e<=1000:=by
     have:10^e<=10^3:=hX (by decide) (by omega);simpa using this
    rw[<-p]at e4 s;have s:10^(l.length-(j+1))=W*10000^q:=by
     rw[Z,Nat.add_comm,hG,qm,p]
    rw[s]at C;obtain⟨D,hD⟩:∃D,D=U+x*W:=⟨_,rfl⟩;have s:x*W<=9*W:=fV _ (by omega);have s:D<W*10:=by omega
    have E:wr .u8 ((l[j].toNat:Int)-48)=(x:Int):=by
     rw[r7];simp[IntKind.wrap,IntKind.bits,IntKind.signed];omega
    have F:wr .i64 (x:Int)=(x:Int):=cE;have s:((x*W:Nat):Int)=(x:Int)*(W:Int):=by simp
    have G:wr .i64 ((x:Int)*(W:Int))=((x*W:Nat):Int):=by rw[cE,s]
    have r:wr .i64 ((U:Int)+((x*W:Nat):Int))=(D:Int):=by rw[cE];omega
    have u:wr .i64 ((W:Int)*10)=((W*10:Nat):Int):=by rw[cE];simp
    have I:wr .i64 ((j:Int)-1)=(j:Int)-1:=cE;have aa:rs f q+(D:Int)*10000^q=(dV (l.drop j):Int):=by
     rw[C,hD];simp only[Int.natCast_add,zW,Int.natCast_pow,Int.cast_ofNat_Int];rw[<-B];grind
    have d:=b.h;have w:wr .i64 ((W:Int)*10)=((W*10:Nat):Int):=u;rw[s]at r;have J:¬l[j].toNat<48:=by omega
    have M:¬57<l[j].toNat:=by omega
    have ab:((W:Int)*10==10000)=decide (W=1000):=by
     rw[Bool.eq_iff_iff];simp;omega
    have ad:W=1000∨j=0->∃h,(fj 1 8 T [.int .i64 (D:Int)] 1).run pm (a.new (.cells [.int .i64 (D:Int)] (.n 1)))=some (.slice (some ⟨a.next+1,0,none⟩) (q+1) (q+1),h)/\FC pm H l (j,.slice (some ⟨a.next+1,0,none⟩) (q+1) (q+1),1,0) h:=by
     intro v;obtain⟨h,a1,a2,a3,_,_⟩:=E6 (K.new d (.cells [.int .i64 (D:Int)] (.n 1))).h (cR:=8) (n:=H.next) (i.ext λc _ _ o=>(K.new d _).some d o) (xs:=[.int .i64 (D:Int)]) rfl rfl (bc _) (by omega) (by omega) (by have:=b.next;show H.next<=a.next+1;omega) z;have o:K pm H h:=aC.trans (aC.new b b.next _) a3;have s:ep f q++[.int .i64 (D:Int)]=ep (cS f q D) (q+1):=by
      rw[H8,j6,DU (f:=cS f q D) (g:=f) λN w=>hU (by omega)]
     rw[s]at a2;refine⟨h,a1,o,by show j<=l.length;omega,q+1,cS f q D,_,a2,λc e=>?_,λN w=>?_,?_,?_,λ_=>⟨rfl,Nat.succ_ne_zero q⟩,λO=>⟨0,?_,by decide,rfl,by show 0<10^0;simp⟩⟩
     ·cases e;have:=b.next;exact⟨by show H.next<=a.next+1;omega,g.may (by show H.next<=a.next+1;omega)⟩
     ·by_cases e:N=q
      ·subst e;rw[j6];omega
      ·rw[hU e];exact A N (by omega)
     ·show rs (cS f q D) (q+1)+((0:Nat):Int)*10000^(q+1)=(dV (l.drop j):Int);rw[rs,FY (bc _),j6,aa];simp
     ·have:4*q+e=l.length-(j+1):=Z.symm;show q+1<=l.length;omega
     ·show l.length-j=4*(q+1)+0;have R:e=3:=by
       have O:j≠0:=O;have m:W=1000:=v.resolve_right O;apply o3;intro _;have:10^e<=10^2:=hX (by decide) (by omega);have Q:(10:Nat)^2=100:=rfl;omega
      omega
    have o:((j:Int)==0)=decide (j=0):=by
     rw[Bool.eq_iff_iff];simp
    by_cases m:W=1000
    ·obtain⟨h,c,f⟩:=ad (.inl m);have g:((W:Int)*10==10000)=true:=by rw[ab];exact hd m
     simp[k,J,M,E,F,G,r,u,g,d.make,d.pick,fill,setCells,c,I,aR];refine kt.of (j,.slice (some ⟨a.next+1,0,none⟩) (q+1) (q+1),1,0) (qq j) ?_ f;simp
    ·have g:((W:Int)*10==10000)=false:=by rw[ab];exact j1 m
     by_cases c:j=0
     ·obtain⟨h,f,h⟩:=ad (.inr c);have l:((j:Int)==0)=true:=by rw[o];exact hd c
      simp[k,J,M,E,F,G,r,u,g,l,d.make,d.pick,fill,setCells,f,I];refine kt.of (j,.slice (some ⟨a.next+1,0,none⟩) (q+1) (q+1),1,0) (qq j) ?_ h;simp
     ·have a:((j:Int)==0)=false:=by rw[o];exact j1 c
      have d:W*10=10^(e+1):=by rw[eB,p]
      simp[k,J,M,E,F,G,r,u,g,a,I];refine kt.of (j,T,W*10,D) (qq j) ?_ ⟨b,by show j<=l.length;omega,q,f,V,i,z,A,aa,hq,λe=>absurd e c,λ_=>⟨e+1,?_,?_,d,by show D<10^(e+1);omega⟩⟩
      ·simp
      ·show l.length-j=4*q+(e+1);omega
      ·apply o3;intro _;obtain rfl:e=3:=by omega
       exact m p
 have b:(l==[])=false:=by simpa using y
 obtain⟨c,t,rfl⟩:∃c t,l=c::t:=by
  cases l with
  | nil=>exact absurd rfl y
  | cons c t=>exact⟨c,t,rfl⟩
 by_cases v:c=48
 ·subst v;have a:t=[]:=by
   cases t with
   | nil=>rfl
   | cons=>simp at R
  subst a;simp[eM, -wB];exact S _ (by simp)
 ·have a:¬c.toNat=48:=λe=>v (zT.1 e);have b:¬(2000:Int)<(t.length:Int)+1:=by simp at Q;omega
  have d:((c.toNat:Int)==48)=false:=by
   rw[lz];simpa using a
  simp[eM,b,d,aR,-wB];exact S _ (by simp)
theorem Hv{n j:Nat}(h:j<(Lib.decDigits n).length):48<=((Lib.decDigits n)[j]).toNat/\((Lib.decDigits n)[j]).toNat<=57:=by
 have a:=Gv n;rw[eA]at a;have:=a _ (tn h);simpa [gL,cJ]using this
theorem ten4(k:Nat):bS (4*k)=10000^k:=(fQ _).trans (Nat.pow_mul 10 4 k)
theorem fB.len{u:Value}{k n:Nat}(h:fB H u k n)(a:n<bS 2000):k<=500:=h.kS.le (by rw[<-ten4 500];exact a)
abbrev q3(neg:Bool)(a b c d e f:Nat):List Value:=[.bool neg,.slice (some ⟨a,0,none⟩) b c,.slice (some ⟨d,0,none⟩) e f]
theorem FG(A:oy X){p r e f g h:Nat}{Q:cl}{neg aK:Bool}{b a n d m:Nat}{iX:List UInt8}(L:bl pm ai)(B:K pm ai H)(C:ai.next<=r){z:cM}(i:H.get p=some (.cells (q3 neg e b f g a h) z))(O:H.get r=some (.cells [.bool false,.slice none 0 0,.slice none 0 0] (.t T.qh)))
 (u:fB H (.slice (some ⟨e,0,none⟩) b f) b n) (q:fB H (.slice (some ⟨g,0,none⟩) a h) a d) (S:b<=501) (S:a<=501) (P:e≠r) (R:g≠r)
 (S:m=iX.length∨m<iX.length/\d≠1) (a':Nat.gcd n d=1) (S:aK=true->n≠0) {l:bn} (cH:aF 2 l=some (.pointer (some ⟨r,0,none⟩))) (z:aF 4 l=some (ak iX)) (j:aF 5 l=some (.bool aK)) (D:aF 6 l=some (.int .i64 (m:Int))) (v:aF 7 l=some (.slice (some ⟨e,0,none⟩) b f)) (k:aF 8 l=some (.bool true)) (c:aF 9 l=some (.pointer (some ⟨p,0,none⟩)))
 (U:∀aU ab,aF 2 aU=some (.pointer (some ⟨r,0,none⟩))->aF 3 aU=some (.bool true)->K pm ai ab->fB ab (.slice (some ⟨e,0,none⟩) b f) b n->fB ab (.slice (some ⟨g,0,none⟩) a h) a d->ab.get r=some (.cells (q3 neg e b f g a h) (.t T.qh))->Q .ret aU ab):
 wp X pm (.code vS) l H [] Q:=by
 have s:=B.h;have V:pm.may r=true:=L.may C;have w:aK=true->((b:Int)==0)=false:=λx=>by
  have:=S x;have d:=u.kS.od;rw[lz];simp;omega
 have o:∀L:bn,aF 2 L=some (.pointer (some ⟨r,0,none⟩))->aF 9 L=some (.pointer (some ⟨p,0,none⟩))->aF 96 L=some (.bool false)->aF 98 L=some (.slice (some ⟨e,0,none⟩) b f)->aF 100 L=some (.slice (some ⟨g,0,none⟩) a h)->
  al X pm ⟨some 101,some (96,false),.call F.oz [.t 98,.t 100]⟩ F.oz [.t 98,.t 100] q2 L H [.seq oV,.seq oA] Q:=by
  intro L E W d L S;refine al.of (a':=by simp[d]) (aI:=by simp[L,S]) (aq:=[.slice (some ⟨e,0,none⟩) b f,.slice (some ⟨g,0,none⟩) a h]) (HD A.toNE s u q (by omega) (by omega)) ?_;rintro Y l ⟨G,L,t⟩;rw[a']at t;have m:=G.h;have I:=K.new m (.cells [.int .i64 1] (.n 1));have Z:(l.new (.cells [.int .i64 ((1:Nat):Int)] (.n 1))).get l.next=some (.cells [.int .i64 ((1:Nat):Int)] (.n 1)):=cc;have S:L=1:=((t.kS.one).2 rfl).1;simp[d,m.make,m.pick,fill,setCells,-Cs,-oV,-oA];refine al.of (a':=by simp[d]) (aq:=[Y,.slice (some ⟨l.next,0,none⟩) 1 1]) (xu A.toNE (t.ext (I.ext m)) (fB.one Z (by decide) (by decide)) (by omega) (by decide)) ?_;rintro _ _ ⟨rfl,rfl⟩;have n:=K.trans G I;have aa:=n.some s i;have J:=n.some s O;have c0:p' 1 1=0:=rfl;obtain⟨y,p⟩:∃A,A=(l.new (.cells [.int .i64 1] (.n 1))).put r (.cells (q3 neg e b f g a h) (.t T.qh)):=⟨_,rfl⟩;have kE:K pm ai y:=by rw[p];exact aC.put (K.trans B n) C J (by simp) _
  have gE:y.get r=some (.cells (q3 neg e b f g a h) (.t T.qh)):=by rw[p];exact bO
  have M:∀{e b f g},e≠r->fB H (.slice (some ⟨e,0,none⟩) b f) b g->fB y (.slice (some ⟨e,0,none⟩) b f) b g:=λhb h=>(h.ext (n.ext s)).at λ_ _ x _ hy=>by
   cases x;rw[p,a6 hb];exact hy
  simp[d,E,W,c0,aa,J,bB,bA,setCells,V,<-p];exact U _ _ (by simp[E]) (by simp) kE (M P u) (M R q) gE
 by_cases N:a=1
 ·have l:((a:Int)==1)=true:=by simpa using N
  obtain⟨_,_,y,_,G⟩:=q.row;cases y;obtain⟨_,_,_,y,n,p,H⟩:=G.get (by omega);cases y;have r:=H 0 (by omega);have t:0<a:=by omega
  by_cases E:d=1
  ·have F:((rg d 0:Int)==1)=true:=by subst E;rfl
   have d:¬m<iX.length:=by omega
   cases aK
   ·simp[z,j,D, k,c,i,l,t,n,p,r,F,d,aR,-q2,-oV,-oA];exact o _ (by simp[cH]) (by simp[c]) (by simp) (by simp) (by simp)
   ·simp[z,j,D,v,k,c,i,l,t,n,p,r,F,d, w rfl,-q2,-oV,-oA];exact o _ (by simp[cH]) (by simp[c]) (by simp) (by simp) (by simp)
  ·have m:((rg d 0:Int)==1)=false:=by
    rw[lz];intro h;have h:(rg d 0:Int)=1:=by simpa using h
    exact E ((q.kS.one).1 ⟨N,by omega⟩)
   cases aK
   ·simp[ j,  k,c,i,l,t,n,p,r,m,aR,-q2,-oV,-oA];exact o _ (by simp[cH]) (by simp[c]) (by simp) (by simp) (by simp)
   ·simp[ j, v,k,c,i,l,t,n,p,r,m,aR,w rfl,-q2,-oV,-oA];exact o _ (by simp[cH]) (by simp[c]) (by simp) (by simp) (by simp)
 ·have d:((a:Int)==1)=false:=by
   rw[lz];simp;omega
  cases aK
  ·simp[ j,  k,c,i,d,aR,-q2,-oV,-oA];exact o _ (by simp[cH]) (by simp[c]) (by simp) (by simp) (by simp)
  ·simp[ j, v,k,c,i,d,aR,w rfl,-q2,-oV,-oA];exact o _ (by simp[cH]) (by simp[c]) (by simp) (by simp) (by simp)
theorem FH(z:oy X)(g:bl pm H){q:Rat}(b7:q.num.natAbs<bS 2000)(cH:q.den<bS 2000):Call X pm F.qa [ak (bk q)] H λr ab=>K pm H ab/\∃u,r=.tuple #[u,.bool true]/\nC ab u 501 (decide (q<0)) q.num.natAbs q.den:=by
 refine Call.W z.qa rfl λaf hQ=>?_;obtain⟨a,I⟩:∃D,D=Lib.decDigits q.num.natAbs:=⟨_,rfl⟩;obtain⟨B,C⟩:∃D,D=if q.den=1 then[] else 47::Lib.decDigits q.den:=⟨_,rfl⟩
 obtain⟨iX,b⟩:∃D,D=a++B:=⟨_,rfl⟩;have av:bk q=(if q<0 then[45] else[])++iX:=by rw[b,I,C];rfl
 have U:q<0->q.num.natAbs≠0:=λh=>by
  have:=(zn q).1 h;omega
 have ax:a≠[]:=by rw[I];exact yS _
 have ay:∀L (h:L<a.length),48<=a[L].toNat/\a[L].toNat<=57:=by
  subst I;exact λL h=>Hv h
 have ag:0<a.length:=rT.2 ax;have V:ie a=true:=by rw[I];exact Pc b7
 have D:a.length<=2000:=by
  unfold ie at V;simp[cJ]at V;exact V.2.1
 have W:=Pc cH;have D:(Lib.decDigits q.den).length<=2000:=by
  unfold ie at W;simp[cJ]at W;exact W.2.1
 have D:iX.length<=4001:=by
  rw[b,o4,C];split
  ·simp;omega
  ·simp;omega
 obtain⟨r,Y⟩:∃r,r=H.next:=⟨_,rfl⟩;obtain⟨c,J⟩:∃A,A=H.new (.cells [.bool false,.slice none 0 0,.slice none 0 0] (.t T.qh)):=⟨_,rfl⟩;have k1:K pm H c:=by rw[J];exact K.new g _
 have l:=k1.h;have aM:c.get r=some (.cells [.bool false,.slice none 0 0,.slice none 0 0] (.t T.qh)):=by rw[J,Y];exact cc
 have D:c.next=r+1:=by rw[J,Y];rfl
 have kU:K pm c (c.up 10):=(K.refl l).up 10;have ah:∀L:bn,aF 2 L=some (.pointer (some ⟨r,0,none⟩))->aF 4 L=some (ak iX)->aF 5 L=some (.bool (decide (q<0)))->wp X pm (.code wC) L (c.up 10) [] af:=by
  intro L D L l5;have gU:=kU.h;simp[-BB,-uh];refine fh.of (σ:=Nat) (λk=>[(2,.pointer (some ⟨r,0,none⟩)),(4,ak iX),(5,.bool (decide (q<0))),(6,.int .i64 (k:Int))]) (λk ab=>ab=c.up 10/\k<=a.length) (λk=>a.length-k) 0 (by simp[D,L,l5]) ⟨rfl,Nat.zero_le _⟩ ?_;rintro k _ ⟨az,_⟩;by_cases ai:k<a.length
  ·have d:k<iX.length:=by rw[b,o4];omega
   have e:iX[k]=a[k]:=by
    subst b;exact List.getElem_append_left ai
   have f:((iX[k].toNat:Int)==47)=false:=by
    rw[lz,e];have:=ay k ai;simp;omega
   have e:wr .i64 ((k:Int)+1)=((k+1:Nat):Int):=by rw[cE];simp
   simp[d,f,e,-uh];refine kt.of (k+1) ?_ (by simp) ⟨az,ai⟩;show a.length-(k+1)<a.length-k;omega
  ·obtain rfl:k=a.length:=by omega
   subst az;have L:iX.take a.length=a:=by rw[b];simp
   have aA:∀D:bn,aF 2 D=some (.pointer (some ⟨r,0,none⟩))->aF 4 D=some (ak iX)->aF 5 D=some (.bool (decide (q<0)))->aF 6 D=some (.int .i64 (a.length:Int))->wp X pm (.code uh) D (c.up 10) [] af:=by
    intro D m2 M m5 N;have D:a.length<=iX.length:=by rw[b,o4];omega
    simp[M,N,D,L,-Cb,-BC];refine al.of (aq:=[ak a]) (FF z gU V) ?_;rintro _ d ⟨E,e,i,s,rfl,_,hn⟩;rw[I,Gu]at hn;have X:=E.h;have D:=hn.len b7;have gL:(d.new (.cells [.int .i64 ((1:Nat):Int)] (.n 1))).get d.next=some (.cells [.int .i64 ((1:Nat):Int)] (.n 1)):=cc;have t:=K.new X (.cells [.int .i64 ((1:Nat):Int)] (.n 1));obtain⟨H3,aB⟩:∃A,A=d.new (.cells [.int .i64 1] (.n 1)):=⟨_,rfl⟩;have D:d.new (.cells [.int .i64 ((1:Nat):Int)] (.n 1))=H3:=aB.symm;rw[D]at gL t;have Z:=t.h;have aN:fB H3 (.slice (some ⟨d.next,0,none⟩) 1 1) 1 1:=fB.one gL (by decide) (by decide);have aj:=hn.ext (t.ext X);simp[m5,X.make,X.pick,fill,setCells,<-aB,-CU,-BU];refine al.of (aq:=[.bool (decide (q<0)),.slice (some ⟨e,0,none⟩) i s,.slice (some ⟨d.next,0,none⟩) 1 1]) (wo z Z aj rfl) ?_;rintro _ H4 ⟨n,rfl⟩;have D:(decide (q<0)&&!decide (q.num.natAbs=0))=decide (q<0):=by
     by_cases h:q<0
     ·simp only[hd h,Bool.true_and,j1 (U h),Bool.not_false]
     ·simp only[j1 h,Bool.false_and]
    rw[D];have u:=n.h;obtain⟨p,hp⟩:∃p,p=H4.next:=⟨_,rfl⟩;obtain⟨H5,aa⟩:∃A,A=H4.new (.cells [.bool false,.slice none 0 0,.slice none 0 0] (.t T.vI)):=⟨_,rfl⟩;have k5:K pm H4 H5:=by rw[aa];exact K.new u _
    have an:H5.get p=some (.cells [.bool false,.slice none 0 0,.slice none 0 0] (.t T.vI)):=by rw[aa,hp];exact cc
    obtain⟨F,ad⟩:∃A,A=H5.put p (.cells (q3 (decide (q<0)) e i s d.next 1 1) (.t T.vI)):=⟨_,rfl⟩;have O:K pm H4 F:=by rw[ad];exact aC.put k5 (by omega) an (by simp) _
    have ao:F.get p=some (.cells (q3 (decide (q<0)) e i s d.next 1 1) (.t T.vI)):=by rw[ad];exact bO
    have ar:pm.may p=true:=u.may (by omega);have aD:K pm H F:=K.trans k1 (K.trans kU (K.trans E (K.trans t (K.trans n O))));have aE:F.get r=some (.cells [.bool false,.slice none 0 0,.slice none 0 0] (.t T.qh)):=(K.trans kU (K.trans E (K.trans t (K.trans n O)))).some l aM;have aG:=aj.ext ((K.trans n O).ext Z);have aO:=aN.ext ((K.trans n O).ext Z);have D:(c.up 10).next=r+11:=by show c.next+10=_;omega
    have aH:e≠r:=by omega
    have aP:d.next≠r:=by have:=E.next;omega
    have aI:∀(o:bn) (ab:ae) (v f G:Nat),f<=501->aF 2 o=some (.pointer (some ⟨r,0,none⟩))->aF 3 o=some (.bool true)->K pm H ab->fB ab (.slice (some ⟨e,0,none⟩) i s) i q.num.natAbs->fB ab (.slice (some ⟨v,0,none⟩) f G) f q.den->ab.get r=some (.cells (q3 (decide (q<0)) e i s v f G) (.t T.qh))->af .ret o ab:=by
     intro o ab v f G g c j m r x y;refine hQ _ _ _ ?_;simp[ft,c,j,y,bB,bA];exact⟨m,⟨_,_,i,f,rfl,r,x,by omega,g⟩,q.den_pos,λh=>qo (U (by simpa using h))⟩
    by_cases w:q.den=1
    ·have c:B=[]:=by rw[C,aL w]
     have j:iX.length=a.length:=by rw[b,c];simp
     have c:¬a.length<iX.length:=by omega
     have r:fB F (.slice (some ⟨d.next,0,none⟩) 1 1) 1 q.den:=by rw[w];exact aO
     simp[u.make,u.pick,ptr,<-hp,<-aa,an,setCells,ar,<-ad,M,N,c,-vS];refine FG z (m:=a.length) (iX:=iX) (aK:=decide (q<0)) g aD (by omega) ao aE aG r (by omega) (by decide) aH aP (.inl j.symm) q.reduced (λh=>U (by simpa using h)) (by simp[m2]) (by simp[M]) (by simp[m5]) (by simp[N]) (by simp) (by simp) (by simp) ?_;exact λo ab c d j r x y=>aI o ab _ _ _ (by decide) c d j r x y
    ·have c:B=47::Lib.decDigits q.den:=by rw[C,aw w]
     have au:a.length<iX.length:=by rw[b,c];simp
     have d:iX.drop (a.length+1)=Lib.decDigits q.den:=by rw[b,c,List.drop_append];simp
     have c:wr .i64 ((a.length:Int)+1)=((a.length+1:Nat):Int):=by rw[cE];simp
     have D:a.length+1<=iX.length:=au;have I:(iX.drop (a.length+1)).take (iX.length-(a.length+1))=Lib.decDigits q.den:=by rw[qn (by simp),d]
     have P:=O.h;simp[u.make,u.pick,ptr,<-hp,<-aa,an,setCells,ar,<-ad,M,N,au,c,D,I,-CF,-BQ,-vS];refine al.of (aq:=[ak (Lib.decDigits q.den)]) (FF z P W) ?_;rintro _ H7 ⟨Q,v,f,G,rfl,_,hd⟩;rw[Gu]at hd;have c:=Q.h;have c:=hd.len cH;have aL:0<f:=qo λj=>q.den_nz ((hd.kS.od).1 j);have aw:=Q.some P ao;have aQ:=Q.some P aE;have c:p<F.next:=P.lt ao;have c:e<p:=by
      obtain⟨_,_,g,_,m⟩:=aj.row;cases g
      rcases m with⟨j,_⟩ | ⟨x,y,row,j,H',_⟩
      ·cases j
      ·cases j;have:=Z.lt H';have:=n.next;omega
     obtain⟨H8,R⟩:∃A,A=H7.put p (.cells (q3 (decide (q<0)) e i s v f G) (.t T.vI)):=⟨_,rfl⟩;have k8:K pm H H8:=by rw[R];exact aC.put (K.trans aD Q) (by have:=u.ah;have:=n.next;have:=t.next;have:=E.next;omega) aw (by simp) _
     have aF:H8.get p=some (.cells (q3 (decide (q<0)) e i s v f G) (.t T.vI)):=by rw[R];exact bO
     have c:p≠r:=by have:=n.next;have:=t.next;have:=E.next;omega
     have aR:H8.get r=some (.cells [.bool false,.slice none 0 0,.slice none 0 0] (.t T.qh)):=by rw[R,a6 (Ne.symm c)];exact aQ
     have aJ:∀{S k ae x},S≠p->fB H7 (.slice (some ⟨S,0,none⟩) k ae) k x->fB H8 (.slice (some ⟨S,0,none⟩) k ae) k x:=λhb h=>h.at λ_ _ j y hy=>by
      cases j;rw[R,a6 hb];exact hy
     have c:=aJ (show e≠p by omega) (aG.ext (Q.ext P));have d:=aJ (show v≠p by omega) hd;simp[aw,setCells,ar,<-R,aF,aL,-vS];refine FG z (m:=a.length) (iX:=iX) (aK:=decide (q<0)) g k8 (by omega) aF aR c d (by omega) (by omega) aH (by omega) (.inr ⟨au,w⟩) q.reduced (λh=>U (by simpa using h)) (by simp[m2]) (by simp[M]) (by simp[m5]) (by simp[N]) (by simp) (by simp) (by simp) ?_;exact λo ab c S ae d j f=>aI o ab _ _ _ (by omega) c S ae d j f
   by_cases w:q.den=1
   ·have c:B=[]:=by rw[C,aL w]
    have d:¬a.length<iX.length:=by rw[b,c];simp
    simp[d,aR,-uh];exact aA _ (by simp) (by simp) (by simp) (by simp)
   ·have d:B=47::Lib.decDigits q.den:=by rw[C,aw w]
    have e:a.length<iX.length:=by rw[b,d];simp
    have f:iX[a.length]=47:=by
     subst b;simp[d]
    simp[e,f,-uh];exact aA _ (by simp) (by simp) (by simp) (by simp)
 have aS:=ay 0 ag;by_cases hq:q<0
 ·have e:bk q=45::iX:=by rw[av,aL hq];rfl
  rw[e];simp[g.make,g.pick,ptr,<-Y,<-J,-yi];refine cx.of l.ah rfl ?_;simp[b8,l.none,l.O,eM,b3,bZ, -wC];exact ah _ (by simp) (by simp) (by simp[hq])
 ·have c:bk q=iX:=by rw[av,aw hq];rfl
  rw[c];obtain⟨d,t,e⟩:∃d t,iX=d::t:=by
   cases a with
   | nil=>exact absurd rfl ax
   | cons d t=>exact⟨d,t++B,by rw[b];rfl⟩
  have c:48<=d.toNat:=by
   have f:a[0]? = some d:=by
    have:iX[0]? = some d:=by rw[e];rfl
    rw[b,hY ag]at this;exact this
   rw[en ag]at f;cases f;exact aS.1
  have i:((d.toNat:Int)==45)=false:=by
   rw[lz];simp;omega
  rw[e]at ah|-;simp[g.make,g.pick,ptr,<-Y,<-J,-yi];refine cx.of l.ah rfl ?_;simp[b8,l.none,l.O,eM,b3,bZ, i,-wC];exact ah _ (by simp) (by simp) (by simp[hq])
theorem HH(s:oy X)(g:bl pm H){v:Value}{k n d:Nat}{neg:Bool}(m:nC H v k neg n d):Call X pm F.rY [v] H λr ab=>K pm H ab/\nC ab r k (!neg&&!decide (n=0)) n d:=by
 refine Call.W s.rY rfl λ_ F=>?_;obtain⟨_,_,a,b,rfl,i,t,G,I⟩:=m.ex;have J:=m.d;obtain⟨c,d,rfl,_,_⟩:=i.row;obtain⟨e,f,rfl,_,_⟩:=t.row;obtain⟨p,u⟩:∃p,p=H.next:=⟨_,rfl⟩;obtain⟨h,j⟩:∃A,A=H.new (.cells [.bool neg,.slice c a d,.slice e b f] (.t T.FI)):=⟨_,rfl⟩;have k:K pm H h:=by rw[j];exact K.new g _
 have v:=k.h;have L:h.get p=some (.cells [.bool neg,.slice c a d,.slice e b f] (.t T.FI)):=by rw[j,u];exact cc
 obtain⟨r,w⟩:∃r,r=h.next:=⟨_,rfl⟩;have x:H.next<=r:=by have:=k.next;omega
 obtain⟨y,l⟩:∃A,A=h.new (.cells [.bool false,.slice none 0 0,.slice none 0 0] (.t T.yy)):=⟨_,rfl⟩;have m:K pm h y:=by rw[l];exact K.new v _
 have z:=m.h;have M:y.get r=some (.cells [.bool false,.slice none 0 0,.slice none 0 0] (.t T.yy)):=by rw[l,w];exact cc
 have h:=m.some v L;have B:=K.trans k m;simp[g.make,g.pick,ptr,<-u,<-j,  <-w,<-l,h,-C4];refine al.of (aq:=[.bool (!neg),.slice c a d,.slice e b f]) (wo s z (i.ext (B.ext g)) rfl) ?_;rintro _ N ⟨C,rfl⟩;have D:=C.some z M;have O:=K.trans B C;have P:pm.may r=true:=g.may x;obtain⟨E,o⟩:∃A,A=N.put r (.cells [.bool (!neg&&!decide (n=0)),.slice c a d,.slice e b f] (.t T.yy)):=⟨_,rfl⟩;have q:K pm H E:=by rw[o];exact aC.put O x D (by simp) _
 have h:E.get r=some (.cells [.bool (!neg&&!decide (n=0)),.slice c a d,.slice e b f] (.t T.yy)):=by rw[o];exact bO
 simp[D,setCells,P,<-o];refine F _ _ _ ?_;simp[ft,h,bB,bA];refine⟨q,⟨_,_,a,b,rfl,i.ext (q.ext g),t.ext (q.ext g),G,I⟩,J,λh=>?_⟩;simp at h;omega
def uU(neg:Bool)(n:Nat):Int:=if n=0 then 0 else if neg=true then -1 else 1
theorem H3(s:oy X)(g:bl pm H){v:Value}{k n d:Nat}{neg:Bool}(t:nC H v k neg n d):Call X pm F.sM [v] H λr ab=>K pm H ab/\r=.int .i64 (uU neg n):=by
 refine Call.W s.sM rfl λ_ e=>?_;obtain⟨_,_,b,i,rfl,j,r,_,_⟩:=t.ex;have u:=j.kS.od;obtain⟨k,l,rfl,_,_⟩:=j.row;obtain⟨m,o,rfl,_,_⟩:=r.row;obtain⟨p,c⟩:∃p,p=H.next:=⟨_,rfl⟩;obtain⟨q,a⟩:∃A,A=H.new (.cells [.bool neg,.slice k b l,.slice m i o] (.t T.FL)):=⟨_,rfl⟩;have f:K pm H q:=by rw[a];exact K.new g _
 have h:q.get p=some (.cells [.bool neg,.slice k b l,.slice m i o] (.t T.FL)):=by rw[a,c];exact cc
 by_cases d:n=0
 ·have i:((b:Int)==0)=true:=by simpa using u.2 d
  simp[g.make,g.pick,ptr,<-c,<-a,h,i];refine e _ _ _ ?_;simp[uU,d];exact f
 ·have n:((b:Int)==0)=false:=by
   rw[lz];simp;omega
  cases neg
  ·simp[g.make,g.pick,ptr,<-c,<-a,h,n];refine e _ _ _ ?_;simp[uU,d];exact f
  ·simp[g.make,g.pick,ptr,<-c,<-a,h,n];refine e _ _ _ ?_;simp[uU,d];exact f
def jb(neg:Bool)(n:Nat):Int:=if neg=true then -(n:Int) else n
theorem F1{neg:Bool}{n:Nat}:jb (neg&&!decide (n=0)) n=jb neg n:=by
 unfold jb;by_cases h:n=0
 ·subst h;cases neg<;>simp
 ·cases neg<;>simp[h]
theorem fB.form{v:Value}{k n:Nat}(h:fB H v k n):∃b c,v=.slice b k c:=by
 obtain⟨b,c,e,_⟩:=h.row;exact⟨b,c,e⟩
theorem Fw{a b k l:Nat}(b7:a<10000^k)(cH:b<10000^l):a*b<10000^(k+l):=by
 rw[hG];exact Nat.mul_lt_mul'' b7 cH
theorem fB.Q{v:Value}{k K n:Nat}(h:fB H v k n)(a:k<=K):n<10000^K:=fK h.kS.1 (hX (by decide) a)
theorem H5(y:oy X)(g:bl pm H){fm dB:Value}{p q cw a f c:Nat}{h i:Bool}(aI:nC H fm p h cw a)(hb:nC H dB q i f c)(l1:p<=20000)(l2:q<=20000):
 Call X pm F.sN [fm,dB] H λr ab=>K pm H ab/\∃neg n,nC ab r (p+q+1) neg n (a*c)/\jb neg n=jb h cw*c+jb i f*a:=by
 refine Call.W y.sN rfl λaQ hQ=>?_;have aR:=aI.d;have aS:=hb.d;obtain⟨_,_,ax,aa,rfl,i1,i2,j1,j2⟩:=aI.ex;obtain⟨_,_,ay,ad,rfl,i3,i4,j3,j4⟩:=hb.ex;have aT:=i1.Q j1;have aN:=i2.Q j2;have aU:=i3.Q j3;have aO:=i4.Q j4;obtain⟨az,aA,rfl⟩:=i1.form;obtain⟨af,ag,rfl⟩:=i2.form;obtain⟨aB,aD,rfl⟩:=i3.form;obtain⟨ai,aj,rfl⟩:=i4.form;obtain⟨p2,aE⟩:∃S,S=H.next:=⟨_,rfl⟩;obtain⟨N,ak⟩:∃J,J=H.new (.cells [.bool h,.slice az ax aA,.slice af aa ag] (.t T.FM)):=⟨_,rfl⟩;have m1:K pm H N:=by rw[ak];exact K.new g _
 have g1:=m1.h;have q1:N.get p2=some (.cells [.bool h,.slice az ax aA,.slice af aa ag] (.t T.FM)):=by rw[ak,aE];exact cc
 have x1:N.next=p2+1:=by rw[ak,aE];rfl
 obtain⟨p3,aG⟩:∃S,S=N.next:=⟨_,rfl⟩;obtain⟨O,an⟩:∃J,J=N.new (.cells [.bool i,.slice aB ay aD,.slice ai ad aj] (.t T.FN)):=⟨_,rfl⟩;have m2:K pm N O:=by rw[an];exact K.new g1 _
 have g2:=m2.h;have q2:O.get p3=some (.cells [.bool i,.slice aB ay aD,.slice ai ad aj] (.t T.FN)):=by rw[an,aG];exact cc
 have N:O.next=p3+1:=by rw[an,aG];rfl
 obtain⟨k,aH⟩:∃S,S=O.next:=⟨_,rfl⟩;obtain⟨u,ao⟩:∃J,J=O.new (.cells [.bool false,.slice none 0 0,.slice none 0 0] (.t T.ui)):=⟨_,rfl⟩;have N:K pm O u:=by rw[ao];exact K.new g2 _
 have l:=N.h;have r4:u.get k=some (.cells [.bool false,.slice none 0 0,.slice none 0 0] (.t T.ui)):=by rw[ao,aH];exact cc
 have r2:=N.some g2 (m2.some g1 q1);have r3:=N.some g2 q2;have aP:K pm H u:=K.trans m1 (K.trans m2 N);have P:=aP.ext g;have N:u.next=k+1:=by rw[ao,aH];rfl
 have aJ:=λo=>ej (ah:=pm.ah) (ok:=pm.ok) (o:=o) (b:=k) (by have:=g.ah;omega);have N:pm.may k=true:=g.may (by omega);have kU:K pm u (u.up 12):=(K.refl l).up 12;have gU:=kU.h;have eU:=kU.ext l;obtain⟨A,hz⟩:∃A,A=u.next:=⟨_,rfl⟩;have aK:=λj=>(by rw[hz];exact l.none j:(u.up 12).get (A+j)=none);have aV:=(by rw[hz];exact l.O:(u.up 12).get A=none);simp[g.make,g.pick,ptr,<-aE,<-ak,  <-aG,<-an,  <-aH,<-ao,-C8];refine cx.of l.ah rfl ?_;rw[<-hz];simp[b8,aK,aV,r2,r3];refine cY gU (aq:=[.slice az ax aA,.slice ai ad aj]) (by simp[aK]) rfl (λL s=>wz y.toNE s ((i1.ext P).ext eU) ((i4.ext P).ext eU)) ?_;rintro _ O N ⟨U,hx,_⟩;have g4:=N.h;have S:u.next+12<=O.next:=N.next;have yn:∀j,j<12->O.get (A+j)=none:=λj z=>(N.get _ (by show A+j<u.next+12;omega)).trans (aK j);have V:K pm u O:=K.trans kU N;have N:=V.some l r2;have N:=V.some l r3;simp;refine fG g4 (aq:=[.slice aB ay aD,.slice af aa ag]) (by simp[yn]) rfl (λL s=>wz y.toNE s ((i3.ext P).ext (V.ext l)) ((i2.ext P).ext (V.ext l))) ?_;rintro _ O N ⟨W,hy,_⟩;have g5:=N.h;have zn:∀j,j<12->O.get (A+j)=none:=λj z=>(N.get _ (by omega)).trans (yn j z);have Q:K pm u O:=K.trans V N;have aX:=hx.ext (N.ext g4);have t2:=Q.some l r2;have t3:=Q.some l r3;have c1:p2<A:=by omega
 have c2:p3<A:=by omega
 have N:k<A:=by omega
 have A:cw*c<10000^(p+q):=Fw aT aO;have N:f*a<10000^(p+q):=by rw[Nat.add_comm p q];exact Fw aU aN
 have O:U<=p+q:=hx.kS.le A;have A:W<=p+q:=hy.kS.le N;obtain⟨bx,ar,rfl⟩:=hx.form;obtain⟨au,cy,rfl⟩:=hy.form;simp[zn,b3,bZ,fT,cU,dj,c1,c2,t2,t3,-C6];refine al.of (aq:=[.slice af aa ag,.slice ai ad aj]) (wz y.toNE g5 ((i2.ext P).ext (Q.ext l)) ((i4.ext P).ext (Q.ext l))) ?_;rintro _ e ⟨A,v,R,fd⟩;have d:=A.h;have N:K pm u e:=K.trans Q A;have aY:K pm H e:=K.trans aP N;have av:=aX.ext (A.ext g5);have aw:=hy.ext (A.ext g5);have Y:=N.some l r2;have u3:=N.some l r3;have Z:=N.some l r4;have l:a*c<10000^(p+q):=Fw aN aO;have u:v<=p+q:=R.kS.le l;have aZ:0<a*c:=tm aR aS;obtain⟨B,C,rfl⟩:=R.form;obtain⟨w,I⟩:∃w,w=e.next:=⟨_,rfl⟩;have v2:p2<w:=by rw[I];exact d.lt Y
 have v3:p3<w:=by rw[I];exact d.lt u3
 have v4:k<w:=by rw[I];exact d.lt Z
 have m:K pm e (e.up 8):=(K.refl d).up 8;have gW:=m.h;have D:=λj=>(by rw[I];exact d.none j:(e.up 8).get (w+j)=none);have aL:=(by rw[I];exact d.O:(e.up 8).get w=none);have u:kY (k+1) (.slice B v C):=fd.le (by have:=Q.next;omega)
 have aM:∀(t:ae) (neg:Bool) (n x:Nat) (E:Option Addr) (G:Nat) (l:bn),K pm e t->fB t (.slice E x G) x n->kY e.next (.slice E x G)->n<10000^(p+q+1)->jb neg n=jb h cw*c+jb i f*a->aF 4 l=some (.pointer (some ⟨k,0,none⟩))->
  aQ .ret l (t.put k (.cells [.bool (neg&&!decide (n=0)),.slice E x G,.slice B v C] (.t T.ui))):=by
  intro t neg n x E G l g l A N M l4;have o4:=g.some d Z;have ab:K pm H t:=K.trans aY g;have r:=l.FU (b:=k) (A.le (aW:=k+1) (by omega)) (qq k) (.cells [.bool (neg&&!decide (n=0)),.slice E x G,.slice B v C] (.t T.ui));have F:=(R.ext (g.ext d)).FU (b:=k) u (qq k) (.cells [.bool (neg&&!decide (n=0)),.slice E x G,.slice B v C] (.t T.ui));have ae:x<=p+q+1:=l.kS.le N;obtain⟨X,o⟩:∃J,J=t.put k (.cells [.bool (neg&&!decide (n=0)),.slice E x G,.slice B v C] (.t T.ui)):=⟨_,rfl⟩;have kF:K pm H X:=by rw[o];exact aC.put ab (by omega) o4 (by simp) _
  have gF:X.get k=some (.cells [.bool (neg&&!decide (n=0)),.slice E x G,.slice B v C] (.t T.ui)):=by rw[o];exact bO
  rw[<-o]at r F|-;refine hQ _ _ _ ⟨.inr rfl,[.agg #[.bool (neg&&!decide (n=0)),.slice E x G,.slice B v C]],by simp[ft,l4,gF,bB,bA],kF,_,n,⟨⟨_,_,x,v,rfl,r,F,ae,by omega⟩,aZ,λg=>?_⟩,F1.trans M⟩;simp at g;omega
 by_cases M:h=i
 ·have ab:(h==i)=true:=by simpa using M
  have r:cw*c+f*a<10000^(p+q+1):=by
   rw[eB];omega
  have F:jb h (cw*c+f*a)=jb h cw*c+jb i f*a:=by
   rw[<-M];unfold jb;cases h<;>simp<;>grind
  simp[Y,u3,ab,-yB,-vU];refine cx.of d.ah rfl ?_;rw[<-I];simp[b8,D,aL,Y];refine cY gW (aq:=[.slice bx U ar,.slice au W cy]) (by simp[D]) rfl (λL s=>Hy y.toNE s (av.ext (m.ext d)) (aw.ext (m.ext d)) (by omega) (by omega)) ?_;rintro _ H b ⟨T,g,fs⟩;obtain⟨X,cs,rfl⟩:=g.form;obtain⟨o,hS⟩:∃o,o=cw*c+f*a:=⟨_,rfl⟩;rw[<-hS]at g r F;have gY:=b.h;have k:e.next+8<=H.next:=b.next;have wn:∀j,j<8->H.get (w+j)=none:=λj z=>(b.get _ (by show w+j<e.next+8;omega)).trans (D j);have k:=R.ext ((K.trans m b).ext d);simp;refine fG gY (aq:=[.bool h,.slice X T cs,.slice B v C]) (by simp[wn]) rfl (λL s=>wo y s g rfl) ?_;rintro _ t n rfl;have k:∀j,j<8->t.get (w+j)=none:=λj z=>(n.get _ (by omega)).trans (wn j z);have l:=(K.trans m (K.trans b n)).some d Z;simp[k,l,setCells,aJ,b3,bZ,fT,cU,dj,v2, v4];refine aM t h o T X cs _ (K.trans m (K.trans b n)) (g.ext (n.ext gY)) (fs.le (by show e.next<=e.next+8;omega)) r F ?_;simp
 ·have k:(h==i)=false:=by simpa using M
  simp[Y,u3,k,-C',-yB,-vU];refine al.of (aq:=[.slice bx U ar,.slice au W cy]) (xu y.toNE av aw (by omega) (by omega)) ?_;rintro _ e ⟨rfl,rfl⟩;by_cases r:cw*c<f*a
  ·have F:f*a-cw*c<10000^(p+q+1):=by
    rw[eB];omega
   have H:jb i (f*a-cw*c)=jb h cw*c+jb i f*a:=by
    have k:((f*a-cw*c:Nat):Int)=(f:Int)*a-cw*c:=by
     rw[Int.ofNat_sub (by omega)];simp
    unfold jb;rw[k];cases h<;>cases i<;>simp at M|-<;>grind
   simp[r,-vU];refine cx.of d.ah rfl ?_;rw[<-I];simp[b8,D,aL,u3];refine cY gW (aq:=[.slice au W cy,.slice bx U ar]) (by simp[D]) rfl (λL s=>zo y.toNE s (aw.ext (m.ext d)) (av.ext (m.ext d)) (by omega) (by omega) (by omega)) ?_;rintro _ T b ⟨X,g,fs⟩;obtain⟨bs,cs,rfl⟩:=g.form;obtain⟨o,hS⟩:∃o,o=f*a-cw*c:=⟨_,rfl⟩;rw[<-hS]at g F H;have gY:=b.h;have k:e.next+8<=T.next:=b.next;have wn:∀j,j<8->T.get (w+j)=none:=λj z=>(b.get _ (by show w+j<e.next+8;omega)).trans (D j);have k:=R.ext ((K.trans m b).ext d);simp;refine fG gY (aq:=[.bool i,.slice bs X cs,.slice B v C]) (by simp[wn]) rfl (λL s=>wo y s g rfl) ?_;rintro _ t n rfl;have k:∀j,j<8->t.get (w+j)=none:=λj z=>(n.get _ (by omega)).trans (wn j z);have l:=(K.trans m (K.trans b n)).some d Z;simp[k,l,setCells,aJ,b3,bZ,fT,cU,dj, v3,v4];refine aM t i o X bs cs _ (K.trans m (K.trans b n)) (g.ext (n.ext gY)) (fs.le (by show e.next<=e.next+8;omega)) F H ?_;simp
  ·have F:cw*c-f*a<10000^(p+q+1):=by
    rw[eB];omega
   have H:jb h (cw*c-f*a)=jb h cw*c+jb i f*a:=by
    have k:((cw*c-f*a:Nat):Int)=(cw:Int)*c-f*a:=by
     rw[Int.ofNat_sub (by omega)];simp
    unfold jb;rw[k];cases h<;>cases i<;>simp at M|-<;>grind
   simp[r,-vU];refine cx.of d.ah rfl ?_;rw[<-I];simp[b8,D,aL,Y];refine cY gW (aq:=[.slice bx U ar,.slice au W cy]) (by simp[D]) rfl (λL s=>zo y.toNE s (av.ext (m.ext d)) (aw.ext (m.ext d)) (by omega) (by omega) (by omega)) ?_;rintro _ T b ⟨X,g,fs⟩;obtain⟨bs,cs,rfl⟩:=g.form;obtain⟨o,hS⟩:∃o,o=cw*c-f*a:=⟨_,rfl⟩;rw[<-hS]at g F H;have gY:=b.h;have a:e.next+8<=T.next:=b.next;have wn:∀j,j<8->T.get (w+j)=none:=λj z=>(b.get _ (by show w+j<e.next+8;omega)).trans (D j);have a:=R.ext ((K.trans m b).ext d);simp;refine fG gY (aq:=[.bool h,.slice bs X cs,.slice B v C]) (by simp[wn]) rfl (λL s=>wo y s g rfl) ?_;rintro _ t n rfl;have a:∀j,j<8->t.get (w+j)=none:=λj z=>(n.get _ (by omega)).trans (wn j z);have c:=(K.trans m (K.trans b n)).some d Z;simp[a,c,setCells,aJ,b3,bZ,fT,cU,dj,v2, v4];refine aM t h o X bs cs _ (K.trans m (K.trans b n)) (g.ext (n.ext gY)) (fs.le (by show e.next<=e.next+8;omega)) F H ?_;simp
theorem Ig{neg:Bool}{n:Nat}:jb (!neg&&!decide (n=0)) n=-jb neg n:=by
 rw[F1];unfold jb;cases neg<;>simp
theorem Ii{neg:Bool}{n:Nat}:uU neg n=(jb neg n).sign:=by
 unfold uU jb;by_cases h:n=0
 ·subst h;cases neg<;>simp
 ·cases neg
  ·simp[h,Int.sign_eq_one_of_pos (show(0:Int)<(n:Int) by omega)]
  ·simp[h,Int.sign_eq_one_of_pos (show(0:Int)<(n:Int) by omega)]
theorem HJ(i:oy X)(g:bl pm H){fm dB:Value}{L M cw m n o:Nat}{b c:Bool}(aI:nC H fm L b cw m)(N:nC H dB M c n o)(l1:L<=10000)(L:M<=10000):
 Call X pm F.sy [fm,dB] H λr ab=>K pm H ab/\r=.int .i64 (jb b cw*o-jb c n*m).sign:=by
 refine Call.W i.sy rfl λ_ hQ=>?_;obtain⟨_,_,p,q,rfl,i1,i2,_,_⟩:=id aI.ex;obtain⟨_,_,s,t,rfl,i3,i4,_,_⟩:=id N.ex;obtain⟨u,v,rfl⟩:=i1.form;obtain⟨w,x,rfl⟩:=i2.form;obtain⟨y,A,rfl⟩:=i3.form;obtain⟨B,C,rfl⟩:=i4.form;obtain⟨O,P⟩:∃D,D=H.next:=⟨_,rfl⟩;obtain⟨e,E⟩:∃G,G=H.new (.cells [.bool b,.slice u p v,.slice w q x] (.t T.FJ)):=⟨_,rfl⟩;have Q:K pm H e:=by rw[E];exact K.new g _
 have R:=Q.h;have q1:e.get O=some (.cells [.bool b,.slice u p v,.slice w q x] (.t T.FJ)):=by rw[E,P];exact cc
 obtain⟨S,U⟩:∃D,D=e.next:=⟨_,rfl⟩;obtain⟨a,I⟩:∃G,G=e.new (.cells [.bool c,.slice y s A,.slice B t C] (.t T.FK)):=⟨_,rfl⟩;have D:K pm e a:=by rw[I];exact K.new R _
 have d:=D.h;have V:a.get S=some (.cells [.bool c,.slice y s A,.slice B t C] (.t T.FK)):=by rw[I,U];exact cc
 have W:=D.some R q1;have ad:=K.trans Q D;obtain⟨z,f⟩:∃z,z=a.next:=⟨_,rfl⟩;have c2:O<z:=by rw[f];exact d.lt W
 have c3:S<z:=by rw[f];exact d.lt V
 have e:K pm a (a.up 6):=(K.refl d).up 6;have gU:=e.h;have Y:=K.trans ad e;have J:=λj=>(by rw[f];exact d.none j:(a.up 6).get (z+j)=none);have ae:=(by rw[f];exact d.O:(a.up 6).get z=none);simp[g.make,g.pick,ptr,<-P,<-E,  <-U,<-I];refine cx.of d.ah rfl ?_;rw[<-f];simp[b8,J,ae,W,V,bB,bA];refine cY gU (aq:=[.agg #[.bool c,.slice y s A,.slice B t C]]) (by simp[J]) rfl (λZ h=>HH i h (N.ext (Y.ext g))) ?_;rintro f e d hu;have s:=d.h;have t:a.next+6<=e.next:=d.next;have aa:=K.trans Y d;have yn:∀j,j<6->e.get (z+j)=none:=λj k=>(d.get _ (by show z+j<a.next+6;omega)).trans (J j);simp;refine fG s (aq:=[.agg #[.bool b,.slice u p v,.slice w q x],f]) (by simp[yn]) rfl (λZ h=>H5 i h (aI.ext (aa.ext g)) hu (by omega) (by omega)) ?_;rintro s a l ⟨af,ag,hs,hv⟩;have d:=l.h;have zn:∀j,j<6->a.get (z+j)=none:=λj k=>(l.get _ (by omega)).trans (yn j k);simp;refine fG d (aq:=[s]) (by simp[zn]) rfl (λZ h=>H3 i h hs) ?_;rintro _ ah m5 rfl;have a:∀j,j<6->ah.get (z+j)=none:=λj k=>(m5.get _ (by have:=l.next;omega)).trans (zn j k);have d:uU af ag=(jb b cw*o-jb c n*m).sign:=by
  rw[Ii,hv,Ig,Int.neg_mul,Int.sub_eq_add_neg]
 simp[a,b3,bZ,fT,cU,dj,c2,c3];refine hQ _ _ _ ?_;simp[d];exact K.trans aa (K.trans l m5)
structure yV(X:aA):Prop extends oy X where
 sO:Has X F.sO C.sO
theorem Ih(q:Rat):jb (decide (q<0)) q.num.natAbs=q.num:=by
 unfold jb;by_cases h:q<0
 ·have:=(zn q).1 h;simp[h];omega
 ·have:¬q.num<0:=λe=>h ((zn q).2 e);simp[h];omega
theorem Hh(p q:Rat):(p.num*q.den-q.num*p.den).sign=iF p q:=by
 unfold iF;by_cases h:p<q
 ·rw[aL h];have:=(Rat.lt_iff p q).1 h;exact Int.sign_eq_neg_one_of_neg (by omega)
 ·rw[aw h];by_cases a:p=q
  ·subst a;rw[aL rfl,Int.sub_self];rfl
  ·rw[aw a];have a:q<p:=by grind
   have:=(Rat.lt_iff q p).1 a;exact Int.sign_eq_one_of_pos (by omega)
theorem FP{q:Rat}(h:isNum (bk q)=true):q.num.natAbs<bS 2000/\q.den<bS 2000:=by
 unfold isNum gq lh at h;rw[HN,Gh]at h;have a:ie (Lib.decDigits q.num.natAbs)=true/\ie (Lib.decDigits q.den)=true:=by
  by_cases a:ie (Lib.decDigits q.num.natAbs)=true/\ie (Lib.decDigits q.den)=true
  ·exact a
  ·rw[aw (λb=>a ⟨b.1,b.2.1⟩)]at h;cases h
 have c:∀{n:Nat},ie (Lib.decDigits n)=true->n<bS 2000:=λ{n} b=>by
  unfold ie at b;simp[cJ]at b;have d:=b.2.1;rw[Lib.decDigits_length]at d;have z:=Lib.lt_pow_nDigits n;rw[<-fQ]at z;exact fK z (j4 d)
 exact⟨c a.1,c a.2⟩
theorem H9(c:yV X)(g:bl pm H){p q:Rat}(N:isNum (bk p)=true)(O:isNum (bk q)=true):Call X pm F.sO [ak (bk p),ak (bk q)] H λr ab=>K pm H ab/\r=.int .i64 (iF p q):=by
 refine Call.W c.sO rfl λ_ P=>?_;obtain⟨Q,R⟩:=FP N;obtain⟨S,U⟩:=FP O;simp[-Fv,-Fs];refine al.of (aq:=[ak (bk p)]) (FH c.tooy g Q R) ?_;rintro _ d ⟨G,_,rfl,H⟩;have a:=G.h;obtain⟨_,_,i,j,rfl,V,W,_⟩:=id H.ex;obtain⟨k,l,rfl⟩:=V.form;obtain⟨m,n,rfl⟩:=W.form;obtain⟨e,o⟩:∃r,r=d.next:=⟨_,rfl⟩;have X:pm.may e=true:=a.may (by omega);have Y:∀x,(d.new x).get e=some x:=λx=>by rw[o];exact cc
 obtain⟨I,s⟩:∃A,A=(d.new (.cells [.bool false,.slice none 0 0,.slice none 0 0] (.t T.Fo))).put e (.cells [.bool (decide (p<0)),.slice k i l,.slice m j n] (.t T.Fo)):=⟨_,rfl⟩;have t:K pm d I:=by rw[s,o];exact gh a _ _
 have u:=t.h;have Z:I.get e=some (.cells [.bool (decide (p<0)),.slice k i l,.slice m j n] (.t T.Fo)):=by rw[s];exact bO
 have aa:=H.ext (t.ext a);simp[a.make,a.pick,ptr, <-o,Y,X,setCells,<-s,-Fu,-Fq];refine al.of (aq:=[ak (bk q)]) (FH c.tooy u S U) ?_;rintro _ f ⟨J,_,rfl,L⟩;have b:=J.h;obtain⟨_,_,v,w,rfl,i3,i4,_⟩:=id L.ex;obtain⟨y,z,rfl⟩:=i3.form;obtain⟨B,C,rfl⟩:=i4.form;obtain⟨h,D⟩:∃r,r=f.next:=⟨_,rfl⟩;have ab:pm.may h=true:=b.may (by omega);have ad:∀x,(f.new x).get h=some x:=λx=>by rw[D];exact cc
 obtain⟨M,E⟩:∃A,A=(f.new (.cells [.bool false,.slice none 0 0,.slice none 0 0] (.t T.Fp))).put h (.cells [.bool (decide (q<0)),.slice y v z,.slice B w C] (.t T.Fp)):=⟨_,rfl⟩;have a:K pm f M:=by rw[E,D];exact gh b _ _
 have d:=a.h;have e:M.get h=some (.cells [.bool (decide (q<0)),.slice y v z,.slice B w C] (.t T.Fp)):=by rw[E];exact bO
 have F:=K.trans J a;have f:=F.some u Z;simp[b.make,b.pick,ptr,bA,<-D,ad,ab,setCells,<-E,f,e,bB,-Ft];refine al.of (aq:=[.agg #[.bool (decide (p<0)),.slice k i l,.slice m j n],.agg #[.bool (decide (q<0)),.slice y v z,.slice B w C]]) (HJ c.tooy d (aa.ext (F.ext u)) (L.ext (a.ext b)) (by decide) (by decide)) ?_;rintro _ _ ⟨k5,rfl⟩;simp;refine P _ _ _ ?_;simp[Ih,Hh];exact K.trans G (K.trans t (K.trans F k5))
theorem hh.form{A:Nat->Prop}{k w:Nat}{v:Value}{P:Nat->List Value->Prop}(h:hh H A v k w P):∃a cap,v=.slice a k cap:=by
 let⟨a,cap,e,_⟩:=h;exact⟨a,cap,e⟩
theorem ou.imp{A iS:Nat->Prop}{aX cI:Nat}{v:Value}{l:List (Nat×List a1)}(h:ou H A aX cI v l)(e:∀b y,A b->H.get b=some y->iS b/\ab.get b=some y)(cA:∀L,H.get aX=some (.cells L (.n 2))->ab.get aX=some (.cells L (.n 2))):ou ab iS aX cI v l:=by
 rcases h with h | ⟨b,c,L,d,f,a⟩
 ·exact .inl h
 ·exact .inr ⟨b,c,L,cA _ d,f,λi b=>⟨(a i b).1,(a i b).2.imp λ_ q=>⟨q.1,q.2.imp e λ_ _ _ h=>h⟩⟩⟩
theorem gp.imp{A iS:Nat->Prop}{aH:Nat}{v:Value}{l:List cz}(h:gp H A aH v l)(e:∀b y,A b->H.get b=some y->iS b/\ab.get b=some y)(cA:∀L,H.get aH=some (.cells L (.n 5))->ab.get aH=some (.cells L (.n 5))):gp ab iS aH v l:=by
 rcases h with h | ⟨a,L,b,f,c,d⟩
 ·exact .inl h
 ·exact .inr ⟨a,L,cA _ b,f,c,λi a=>(d i a).imp λ_ q=>⟨q.1,q.2.imp e⟩⟩
theorem Tt{l:List (Nat×List a1)}{k:Nat}{cs:List a1}{i:Nat}(az:i<(l++[(k,cs)]).length):(i<l.length/\∃h:i<l.length,(l++[(k,cs)])[i]=l[i])∨(i=l.length/\(l++[(k,cs)])[i]=(k,cs)):=by
 by_cases h:i<l.length
 ·exact .inl ⟨h,h,List.getElem_append_left h⟩
 ·have:i=l.length:=by simp at az;omega
  subst this;exact .inr ⟨rfl,σ'⟩
theorem ou.app{A:Nat->Prop}{aX cI dZ ah k:Nat}{fJ:List Nat}{r c:Value}{l:List (Nat×List a1)}{cs:List a1}(h:ou H A aX cI r l)(s:∀b,A b->b≠aX/\b≠dZ)(v:aX≠dZ)(t:Perm.may ⟨ah,fJ,some dZ⟩ aX=true)(i:l.length<1000000)(j:hh H A c cs.length 5 (gA cs))(m:H.get dZ=none):
 ∃d o w ab F M,(fj 2 32 r [.int .i64 (k:Int),c] 1).runT ⟨ah,fJ,some dZ⟩ H=some (d,ab,F,M)/\ou ab A o w d (l++[(k,cs)])/\(o=aX∨o=dZ)/\(∀b,b≠aX->b≠dZ->ab.get b=H.get b)/\(∀b y,b≠dZ->H.get b=some y->(∀L,y≠.cells L (.n 2))->ab.get b=some y)/\ab.next=H.next/\(∀x∈F,x=aX)/\(∀{n:Nat} {ai:ae} {pm:Perm},aC pm n ai H->n<=aX->n<=dZ->dZ<H.next->aC pm n ai ab)/\dd d=true/\d.cells=#[d]:=by
 obtain⟨_,_,d⟩:=j.form;have f:dd c=true:=by rw[d];rfl
 have a:(l.length+1)*32<=17179869184:=by omega
 have g:∀{ab:ae} {c:Value} {cs:List a1},(∀b,b≠aX->b≠dZ->ab.get b=H.get b)->hh H A c cs.length 5 (gA cs)->hh ab A c cs.length 5 (gA cs):=λd h=>h.imp (λb y q e=>⟨q,by rw[d b (s b q).1 (s b q).2];exact e⟩) λ_ _ _ h=>h
 rcases h with⟨rfl,rfl,rfl⟩ | ⟨rfl,cH,L,cD,dS,gf⟩
 ·refine⟨.slice (some ⟨dZ,0,none⟩) 1 1,dZ,1,H.put dZ (.cells [.int .i64 (k:Int),c] (.n 2)),[],[dZ],?_,?_,.inr rfl,λb _ a=>a6 a,λb y a e _=>by rw[a6 a];exact e,rfl,by simp,λu _ d i=>aC.fill u d m i _,rfl,rfl⟩
  ·unfold fj;simp[Perm.make,Perm.pick,f]
  ·refine .inr ⟨rfl,bc _,_,bO,rfl,λh k=>?_⟩;obtain rfl:h=0:=by simp at k;omega
   exact⟨rfl,c,rfl,g (λb _ a=>a6 a) j⟩
 ·by_cases n:l.length+1<=cI
  ·have x:∃p,setCells L (l.length*2) [.int .i64 (k:Int),c]=some p:=by
    unfold setCells;rw[cJ,hd (show l.length*2+[Value.int IntKind.i64 (k:Int),c].length<=L.length by simp;omega)];exact⟨_,rfl⟩
   obtain⟨p,u⟩:=x;obtain⟨_,_,h⟩:=vf u;refine⟨.slice (some ⟨aX,0,none⟩) (l.length+1) cI,aX,cI,H.put aX (.cells p (.n 2)),[aX],[aX],?_,?_,.inl rfl,λb a _=>a6 a,λb y _ e d=>by
    have a:b≠aX:=λk=>by
     rw[k,cD]at e;exact d L (jH e).symm
    rw[a6 a];exact e,rfl,by simp,λd k _ _=>aC.put d k cD (by simp) _,rfl,rfl⟩
   ·unfold fj;simp[n,putRow,cD,f,u,t]
   ·refine .inr ⟨by simp,by simpa using n,_,bO,by omega,λl k=>?_⟩
    rcases Tt k with⟨k,_,e⟩ | ⟨rfl,e⟩
    ·rw[e,h,aw (by omega),h,aw (by omega)];exact⟨(gf l k).1,(gf l k).2.imp λc q=>⟨q.1,g (λb a _=>a6 a) q.2⟩⟩
    ·rw[e,h,aL (by simp),h,aL (by simp)];exact⟨by simp,c,by simp,g (λb a _=>a6 a) j⟩
  ·have d:cI=l.length:=by omega
   have p:bB L 0 (l.length*2)=some L:=by rw[show l.length*2=L.length by omega];exact G1 L
   have u:(H.put aX .dead).get dZ=none:=by rw[a6 (Ne.symm v)];exact m
   have h:∀b,b≠aX->b≠dZ->((H.put aX .dead).put dZ (.cells (L++[.int .i64 (k:Int),c]) (.n 2))).get b=H.get b:=λb f cH=>by rw[a6 cH,a6 f]
   refine⟨.slice (some ⟨dZ,0,none⟩) (l.length+1) (l.length+1),dZ,l.length+1,(H.put aX .dead).put dZ (.cells (L++[.int .i64 (k:Int),c]) (.n 2)),[aX],[aX,dZ],?_,?_,.inr rfl,h,λb y m e d=>by
    have a:b≠aX:=λk=>by
     rw[k,cD]at e;exact d L (jH e).symm
    rw[h b a m];exact e,rfl,by simp,λd k l i=>aC.fill (aC.put d k cD (by simp) .dead) l u i _,rfl,rfl⟩
   ·unfold fj;simp[n,Perm.make,Perm.pick,f,cD,p,t,a,show l.length+1<=17179869184 by omega]
   ·refine .inr ⟨by simp,by simp,_,bO,by simp;omega,λk b=>?_⟩
    rcases Tt b with⟨b,_,e⟩ | ⟨rfl,e⟩
    ·rw[e,hY (by omega),hY (by omega)];exact⟨(gf k b).1,(gf k b).2.imp λc q=>⟨q.1,g h q.2⟩⟩
    ·rw[e,iq (by omega),iq (by omega),show l.length*2-L.length=0 by omega,show l.length*2+1-L.length=1 by omega];exact⟨rfl,c,rfl,g h j⟩
end Go.Dam.C
namespace Go.Dam.C
open Go Go.Dam
variable{X:aA}{pm:Perm}{H ab bX ai:ae}{n:Nat}
theorem ey.app{L xs:List Value}{w n:Nat}{f:Nat->List Value}(h:ey L w n f)(a:xs.length=w):ey (L++xs) w (n+1) λj=>if j=n then xs else f j:=by
 refine⟨by simp[h.1,a,j0],λj _=>?_⟩;by_cases e:j=n
 ·subst e;simp;refine⟨a,λ_ _=>?_⟩;rw[iq (by rw[h.1];omega),h.1];congr 1;omega
 ·simp[e];refine⟨(h.2 j ω).1,λk a=>?_⟩;rw[hY (h.lt ω a)];exact(h.2 j ω).2 k a
structure eW(pm:Perm)(p aX aH e9 fE:Nat)(H ab:ae):Prop where
 h:bl pm ab
 next:H.next<=ab.next
 get:∀b,b<H.next->e7 p aX aH b->ab.get b=H.get b
 cf:∀b o,H.get b=some (.cf o)->ab.get b=some (.cf o)
 t:e9=aX∨H.next<=e9
 r:fE=aH∨H.next<=fE
variable{p aX aH cI e9 fE NH NF c3:Nat}{cL dF jS:Value}{deep:Bool}{s:bV}{cs:List a1}
theorem eW.GV(k:eW pm p aX aH e9 fE H ab){b:Nat}(a:b<H.next)(h:e7 p aX aH b):e7 p e9 fE b:=⟨h.1,by have:=k.t;have:=h.2.1;omega,by have:=k.r;have:=h.2.2;omega⟩
theorem eW.trans(k:eW pm p aX aH e9 fE H ab)(l:eW pm p e9 fE NH NF ab bX):eW pm p aX aH NH NF H bX:=
 ⟨l.h,a8 k.next l.next,λb a h=>(l.get b (fK a k.next) (k.GV a h)).trans (k.get b a h),λb o h=>l.cf b o (k.cf b o h),by
  have:=k.t;have:=l.t;have:=k.next;omega,by have:=k.r;have:=l.r;have:=k.next;omega⟩
theorem eW.p7(k:K pm H ab):eW pm p aX aH aX aH H ab:=⟨k.h,k.next,λb a _=>k.get b a,k.cf,.inl rfl,.inl rfl⟩
theorem eW.some(k:eW pm p aX aH e9 fE H ab)(g:bl pm H){b:Nat}{y:bz}(h:e7 p aX aH b)(e:H.get b=Option.some y):ab.get b=Option.some y:=(k.get b (g.lt e) h).trans e
theorem eW.up(k:eW pm p aX aH e9 fE H ab)(b7:p<=aX)(cH:p<=aH)(a:p<H.next):aC pm p H ab:=⟨k.h,k.next,λb _=>k.get b (by omega) ⟨by omega,by omega,by omega⟩,k.cf⟩
theorem eW.S7(k:eW pm p aX aH e9 fE H ab)(g:bl pm H){a w:Nat}{v:Value}{P b:Nat->List Value->Prop}(h:hh H (e7 p aX aH) v a w P)(c:∀i cs,i<a->P i cs->b i cs):hh ab (e7 p e9 fE) v a w b:=
 h.imp (λ_ _ a e=>⟨k.GV (g.lt e) a,k.some g a e⟩) c
theorem E2(hX:nw X)(g:bl pm H)(ag:pm.ah<=p)(h:fY H p cL dF deep c3 s aX aH cI)(ai:hh H (e7 p aX aH) jS cs.length 5 (gA cs))(hn:s.tree.length<=1000)(ht:s.todo.length<=1000):
 Call X pm F.pw [.pointer (some ⟨p,0,none⟩),jS] H λr ab=>∃e9 fE W,r=.int .i64 (s.tree.length:Int)/\fY ab p cL dF deep c3 (s.U cs) e9 fE W/\eW pm p aX aH e9 fE H ab:=by
 refine Call.W hX.pw rfl λ_ hQ=>?_;let⟨⟨_,_⟩,⟨⟨_,ar⟩,_,au⟩,B,rv,l,m,a,av,aw,ax,ay⟩:=h;have lp:=g.lt a;have aP:=g.lt ar;have ar:=g.lt au;obtain⟨C,o,D,ho,E,cf,hf⟩:∃C o,pF H rv 5 s.tree.length C o/\(∀t,o=some t->t=aH)/\∃E,ey C 5 s.tree.length E/\∀i (G:i<s.tree.length),∃Y,E i=s.tree[i].cells Y/\j8 H (np p aX aH) Y s.tree[i].d:=by
  rcases aw with⟨rfl,e⟩ | ⟨rfl,L,b7,E,cH,cD⟩
  ·rw[e];exact⟨[],none,⟨rfl,rfl,rfl⟩,σ',λ_=>[],⟨rfl,λj Z=>absurd Z (gS _)⟩,λi G=>absurd G (gS _)⟩
  ·exact⟨L,some aH,⟨rfl,cH.1,b7⟩,λt e=>by cases e;rfl,E,cH,cD⟩
 obtain⟨q,I⟩:=ε H.next;obtain⟨N,J⟩:=ε (H.new (.cells [.int .i64 (-1),.string ⟨#[]⟩,.int .i64 0,.int .i64 0,.slice none 0 0] (.n 5)));have O:K pm H N:=by rw[J];exact K.new g _
 have E:=O.h;have az:N.next=q+1:=by rw[J,I];rfl
 have aA:N.get q=some (.cells [.I (-1),.string ⟨#[]⟩,.I 0,.I 0,.Z] (.n 5)):=by rw[J,I];exact cc
 let⟨H2,a1,a2,a3,a4,a5⟩:=E6 E (cR:=64) (n:=p+1) (D.ext λt y _ e=>O.some g e) (xs:=[.I (-1),.string ⟨#[]⟩,.I 0,.I 0,.Z]) rfl rfl δ ω δ ω (λt E=>by
  have e:=ho t E;have b:t≠p:=λd=>by
   rw[E]at D;have b7:=D.2.2;rw[d,a]at b7;cases b7
  exact⟨ω,ej ω⟩)
 have t:=a3.h;rw[az]at a1 a2 a4 a5;have t:=O.some g a;have aj:H2.get p=some (.cells [cL,dF,.bool deep,.I (c3:Int),B,rv,.I s.L.st,ak s.L.val,l,.Z,.Z,m] (.t h1)):=(a3.get p ω).trans t;obtain⟨_,_⟩:=ε (Value.slice (some ⟨q+1,0,none⟩) (s.tree.length+1) (s.tree.length+1));obtain⟨c,w⟩:=ε (H2.put p (.cells [cL,dF,.bool deep,.int .i64 (c3:Int),B,.slice (some ⟨q+1,0,none⟩) (s.tree.length+1) (s.tree.length+1),.int .i64 s.L.st,ak s.L.val,l,.slice none 0 0,.slice none 0 0,m] (.t h1)));have u3:aC pm p N c:=by rw[w];exact aC.put (a3.mono ω) (bc _) aj σ' _
 have P:=u3.h;have al:c.get p=some (.cells [cL,dF,.bool deep,.I (c3:Int),B,.S (q+1) (s.tree.length+1) (s.tree.length+1),.I s.L.st,ak s.L.val,l,.Z,.Z,m] (.t h1)):=by rw[w];exact bO
 have t:c.next=q+2:=by rw[w];exact a4
 have aB:pm.may p=true:=ej ag;have wn:wr .i64 (s.tree.length:Int)=s.tree.length:=cE;have an:∀b,b<q->b≠p->o≠some b->c.get b=H.get b:=λb b7 cH cD=>by
  rw[w,a6 cH,a5 b ω cD,J,sY ω]
 have aa:∀b,b<q->e7 p aX aH b->c.get b=H.get b:=λb b7 cH=>an b b7 cH.1 λe=>cH.2.2 (ho b e);obtain⟨z,Q⟩:=ε c.next;obtain⟨f,x⟩:=ε ((c.up 18).put (z+13) (.cells [.int .i64 (s.tree.length:Int),jS] (.n 2)));have t:K pm c (c.up 18):=(K.refl P).up 18;have ad:=λj=>(by rw[Q];exact P.none j:(c.up 18).get (z+j)=none);have aD:=(by rw[Q];exact P.O:(c.up 18).get z=none);have aE:K pm c f:=by rw[x];exact aC.fill t ω (ad 13) (by show z+13<c.next+18;omega) _
 have aF:f.get (z+13)=some (.cells [.I (s.tree.length:Int),jS] (.n 2)):=by rw[x];exact bO
 have ae:∀j,j≠13->f.get (z+j)=none:=λj Z=>by rw[x,a6 ω];exact ad j
 have t:f.next=z+18:=by rw[x,Q];rfl
 have M:∀b,b≠z+13->f.get b=c.get b:=λb a=>by rw[x,a6 a];rfl
 have aG:ou f (λb=>b<q/\e7 p aX aH b) aX cI B s.todo:=by
  refine av.imp (λb y a e=>?_) λL e=>?_
  ·have I:=g.lt e;exact⟨⟨ω,a⟩,by rw[M b ω,aa b ω a];exact e⟩
  ·have b:aX≠p:=λd=>by rw[d,a]at e;cases e
   have g:o≠some aX:=λd=>by
    rw[d]at D;have b7:=D.2.2;rw[e]at b7;cases b7
   rw[M aX ω,an aX ω b g];exact e
 have t:hh f (λb=>b<q/\e7 p aX aH b) jS cs.length 5 (gA cs):=ai.imp (λb y a e=>by
  have I:=g.lt e;exact⟨⟨ω,a⟩,by rw[M b ω,aa b ω a];exact e⟩) λ_ _ _ h=>h
 let⟨af,e9,W,R,F,_,e1,d,S,e4,D,_,e6,aI,e8,aJ⟩:=aG.app (dZ:=z+14) (ah:=pm.ah) (fJ:=pm.ok) (k:=s.tree.length) (λb a=>⟨by have:=a.2.2.1;omega,ω⟩) ω (ej ω) ω t (ae 14 δ);have T:R.get p=some (.cells [cL,dF,.bool deep,.I (c3:Int),B,.S (q+1) (s.tree.length+1) (s.tree.length+1),.I s.L.st,ak s.L.val,l,.Z,.Z,m] (.t h1)):=D p _ ω (by rw[M p ω];exact al) (λL h=>by cases h);have aK:∀j,14<j->R.get (z+j)=none:=λj Z=>by rw[e4 _ ω ω];exact ae j ω
 obtain⟨u,v⟩:=ε (R.put p (.cells [cL,dF,.bool deep,.int .i64 (c3:Int),af,.slice (some ⟨q+1,0,none⟩) (s.tree.length+1) (s.tree.length+1),.int .i64 s.L.st,ak s.L.val,l,.slice none 0 0,.slice none 0 0,m] (.t h1)));have ao:u.get p=some (.cells [cL,dF,.bool deep,.I (c3:Int),af,.S (q+1) (s.tree.length+1) (s.tree.length+1),.I s.L.st,ak s.L.val,l,.Z,.Z,m] (.t h1)):=by rw[v];exact bO
 have aL:=λo=>ej (ah:=pm.ah) (ok:=pm.ok) (o:=o) (b:=p) ag;have aM:dd jS=true/\jS.cells=#[jS]:=by
  let⟨_,_,e⟩:=ai.form;rw[e];exact⟨rfl,rfl⟩
 have dz:c6 [z+13] [p]=true:=gd ω;have aN:p<z:=ω
 simp[g.pick,g.make,fill,<-I,<-J,a,aA,bB,a1,aj,aB,setCells,<-w,-Eo];refine cx.of P.ah rfl ?_;rw[<-Q];simp[b8,ad,aD,al,wn,fill,bA,aM,Perm.make,Perm.pick, <-x,ae,aF,bB,e1,aK,T,aL,e8,aJ,setCells,<-v,dz,aN,b3,bZ, cU,-Eo];refine⟨λx j=>by have:=e6 x j;omega,?_⟩;simp[ao,wn];refine hQ _ _ _ ?_;simp;have j:aC pm p H c:=aC.trans (O.mono ω) u3;have t:aC pm p H f:=j.k aE ω;have f:aC pm p H R:=aI t ω ω ω;have U:aC pm p H u:=by rw[v];exact aC.put f (bc _) T σ' _
 have f:∀b,b≠p->b≠aX->b<z->u.get b=c.get b:=λb b7 cH cD=>by
  rw[v,a6 b7,e4 b cH ω,M b ω]
 have fz:∀b,b<q->e7 p aX aH b->u.get b=H.get b:=λb b7 cH=>by
  have cD:=cH.2.1;rw[f b cH.1 ω ω];exact aa b b7 cH
 have V:∀b y,e7 p aX aH b->H.get b=some y->e7 p e9 (q+1) b/\u.get b=some y:=λb y h e=>by
  have c:=g.lt e;have cD:=h.2.1;exact⟨⟨h.1,ω,ω⟩,by rw[fz b ω h];exact e⟩
 have aq:u.get (q+1)=some (.cells (C++[.I (-1),.string ⟨#[]⟩,.I 0,.I 0,.Z]) (.n 5)):=by
  rw[f (q+1) ω ω ω,w,a6 ω];exact a2.2.2
 have aO:∃y,u.get e9=some y:=by
  rcases d with⟨_,e,_⟩ | ⟨_,_,L,e,_⟩
  ·simp at e
  ·exact⟨_,by rw[v,a6 (λS=>by rw[S,T]at e;cases e)];exact e⟩
 refine⟨e9,q+1,⟨W,⟨ω,ω⟩,⟨aO,_,aq⟩,af,_,l,m,ao,?_,?_,ax.imp λb y a e=>⟨⟨a.1,(V b y a.f e).1.2⟩,(V b y a.f e).2⟩,ay.up U⟩,⟨U.h,U.next,λb a h=>fz b ω h,U.cf,ω,.inr ω⟩⟩
 ·refine d.imp (λb y a e=>⟨⟨a.2.1,by have:=a.2.2.1;omega,ω⟩,?_⟩) λL e=>?_
  ·rw[v,a6 a.2.1];exact e
  ·rw[v,a6 (λS=>by rw[S,T]at e;cases e)];exact e
 ·refine .inr ⟨by simp[bV.U],C++[.I (-1),.string ⟨#[]⟩,.I 0,.I 0,.Z],aq,_,by simpa [bV.U]using cf.app (xs:=[.I (-1),.string ⟨#[]⟩,.I 0,.I 0,.Z]) rfl,λi G=>?_⟩
  ·have G:i<s.tree.length+1:=by simpa [bV.U]using G
   by_cases e:i=s.tree.length
   ·subst e;simp[bV.U,List.getElem_append_right (bc _),Nat.sub_self,List.getElem_cons_zero];exact⟨.Z,rfl,.nil,λ_ _ _ _ h=>(by cases h)⟩
   ·have c:i<s.tree.length:=ω
    simp[bV.U,List.getElem_append_left c,e];exact(hf i c).imp λY q=>⟨q.1,q.2.imp λb y a e=>⟨⟨a.1,(V b y a.f e).1.2⟩,(V b y a.f e).2⟩⟩
end Go.Dam.C
namespace Go.Dam.C
open Go Go.Dam
variable{X:aA}{pm:Perm}{H ab bX ai:ae}{n:Nat}
theorem Mj(a:nw X)(g:bl pm H){l:List UInt8}(b:l.length<1000000)(c:isNum l=true):Call X pm F.px [ak l] H λr ab=>K pm H ab/\b4 ab r (rd l):=by
 refine Call.has a.px rfl ?_;simp;refine al.of (qS a.toEL g b) ?_;rintro r _ ⟨d,h⟩
 rcases h with⟨e,rfl⟩ | ⟨q,p,e,rfl,fw⟩
 ·simp[isNum,e]at c
 ·simp[rd,e];exact⟨d,fw⟩
def Fj(o:Option Nat):Int:=match o with
 | some i=>(i:Int)
 | none=>-1
theorem Vr{a:List a1}{x:List (List UInt8)}(h:∀i,i<a.length->((a.getD i bY).int&&decide ((bU x i).den≠1))=false):kE a x=none:=by
 unfold kE;rw[List.find?_range_eq_none];intro i a;rw[h i a];rfl
theorem Vq{a:List a1}{x:List (List UInt8)}{i:Nat}(az:i<a.length)(b7:((a.getD i bY).int&&decide ((bU x i).den≠1))=true)(h:∀j,j<i->((a.getD j bY).int&&decide ((bU x j).den≠1))=false):kE a x=some i:=by
 unfold kE;rw[List.find?_range_eq_some];exact⟨b7,o6.2 az,λj a=>by rw[h j a];rfl⟩
abbrev JN:Nat:=T.acD
theorem Vs(o:nw X)(g:bl pm H){p:Nat}{u v:Value}{E:List Value}{G:cM}{a:List a1}{x:List (List UInt8)}(I:H.get p=some (.cells (u::E) G))(J:hO H u a)(L:fp H v x)(w:x.length=a.length)(M:x.all isNum=true)(N:∀s∈x,s.length<=10000)(u:a.length<=1000):
 Call X pm F.sn [.pointer (some ⟨p,0,none⟩),v] H λr ab=>K pm H ab/\r=.int .i64 (Fj (kE a x)):=by
 refine Call.hT o.sn rfl ?_;obtain⟨O,P,rfl,Q⟩:=J.at;obtain⟨R,S,rfl,y⟩:=L.ex;rw[w]at y;obtain⟨b,l⟩:∃b:Nat->Bool,b=λi=>(a.getD i bY).int&&decide ((bU x i).den≠1):=⟨_,rfl⟩;have T:(∀i,i<a.length->b i=false)->kE a x=none:=λh=>Vr λi d=>by have:=h i d;rw[l]at this;exact this
 have U:∀i,i<a.length->b i=true->(∀j,j<i->b j=false)->kE a x=some i:=λi d u h=>Vq d (by rw[l]at u;exact u) λj m=>by have:=h j m;rw[l]at this;exact this
 simp[I,-L6,-L7,-cm]
 refine er (σ:=Unit) a.length (λ_ _=>[(0,.pointer (some ⟨p,0,none⟩)),(1,.slice R x.length S),(11,.slice O a.length P)])
  (λi _ ab=>K pm H ab/\∀j,j<i->b j=false) () ⟨K.refl g,λj m=>absurd m (gS _)⟩ ?_ ?_
 ·rintro i _ n d ⟨e,z⟩;have f:=e.h;obtain⟨_,F,_,H,_,rfl,V,W,X,c,Y,rfl⟩:=Q i d;obtain⟨_,_,_,_,_,Z,f2,f3,f4,s,A,rfl⟩:=y i d;subst Z;have u:a.getD i bY=c:=by rw[e5,Y];rfl
  have v:bU x i=rd s:=by simp[bU,List.getD,A]
  have p:b i=(c.int&&decide ((rd s).den≠1)):=by rw[l];show((a.getD i bY).int&&decide ((bU x i).den≠1))=_;rw[u,v]
  have B:b i=false->∀j,j<i+1->b j=false:=λh j m=>by
   by_cases g:j=i
   ·subst g;exact h
   ·exact z j (by omega)
  have a:=cX A;have aa:isNum s=true:=(eA.1 M) s a;have ab:=N s a;have ad:=e.some g V;have ae:=e.some g f2;obtain⟨q,r⟩:∃q,q=n.next:=⟨_,rfl⟩;obtain⟨C,t⟩:∃A,A=(n.new (.cells [.string ⟨#[]⟩,.string ⟨#[]⟩,.string ⟨#[]⟩,.string ⟨#[]⟩,.bool false] (.t JN))).put q (.cells [ak c.name,ak c.low,ak c.up,ak c.cost,.bool c.int] (.t JN)):=⟨_,rfl⟩;have k:K pm n C:=by rw[t,r];exact gh f _ _
  have g2:=k.h;have a:C.get q=some (.cells [ak c.name,ak c.low,ak c.up,ak c.cost,.bool c.int] (.t JN)):=by rw[t];exact bO
  have b:∀x,(n.new x).get q=some x:=λx=>by rw[r];exact cc
  have h:pm.may q=true:=f.may (by omega);have af:=k.some f ae;have j:bB H (F+i*5) 5=some [ak c.name,ak c.low,ak c.up,ak c.cost,.bool c.int]:=X;simp[d,ad,W,j,f.pick,f.make,ptr,bA,<-r,b,h,setCells,<-t,a,-AP,-vq,-cm]
  cases D:c.int with
  | false=>
    simp[aR,-AP,-vq,-cm];refine al.not ?_;simp[-Ep,-vq,-cm];refine al.not ?_;simp[aR,-cm];exact⟨e.trans k,B (by rw[p,D];rfl)⟩
  | true=>
    simp[w,d,af,f3,f4,-AP,-vq,-cm];refine al.of (aq:=[ak s]) (Mj o g2 (by omega) aa) ?_;rintro u _ ⟨g,a⟩;have b:=g.h;simp[-Ep,-vq,-cm];refine al.of (aq:=[u]) (EX o.toEL b a.of (jf ab)) ?_;rintro _ _ ⟨rfl,rfl⟩;by_cases a:(rd s).den=1
    ·simp[a,-cm];exact⟨(e.trans k).trans g,B (by rw[p,a];simp)⟩
    ·simp[a];refine⟨(e.trans k).trans g,?_⟩;rw[U i d (by rw[p,D];simp[a]) z];rfl
 ·rintro _ _ ⟨a,b⟩;simp;exact⟨a,by rw[T b];rfl⟩
def q1(cs:List a1)(i:Nat)(ah a:List UInt8):List a1:=cs.set i {cs.getD i bY with low:=ah,up:=a}
theorem ND(t:nw X)(g:bl pm H){u:Value}{cs:List a1}{aW i:Nat}{ah a:List UInt8}(v:ds H aW u cs.length 5 (gA cs))(az:i<cs.length)(G:cs.length<=1000):
 Call X pm F.qR [u,.int .i64 (i:Int),ak ah,ak a] H λr ab=>K pm H ab/\ds ab H.next r (q1 cs i ah a).length 5 (gA (q1 cs i ah a)):=by
 refine Call.W t.qR rfl λ_ I=>?_;obtain⟨J,M,l,_⟩:=id v;subst l;simp[-L2,-L1];refine al.of (aq:=[.slice J cs.length M]) (tQ (w:=5) (cR:=72) t.k0 g v G (λi cs ⟨c,_,l⟩=>by rw[l];rfl)) ?_;rintro r x ⟨y,N,O,P⟩;have l:=y.h;obtain⟨b,L,k,Q,rfl,z,m⟩:=O.pos (by omega);have B:∀j,j<cs.length->N j=(cs.getD j bY).cells:=λj f=>by
  obtain⟨c,d,g⟩:=P j f;rw[g,e5,d];rfl
 obtain⟨e,n⟩:∃o,o=L.set (i*5+1) (ak ah):=⟨_,rfl⟩;obtain⟨h,C⟩:∃o,o=e.set (i*5+2) (ak a):=⟨_,rfl⟩;obtain⟨p,q⟩:∃A,A=x.put b (.cells e (.n 5)):=⟨_,rfl⟩;obtain⟨D,s⟩:∃A,A=p.put b (.cells h (.n 5)):=⟨_,rfl⟩;have l:=m.lt az (show 1<5 by decide);have o:=m.lt az (show 2<5 by decide);have t:setCells L (i*5+1) [ak ah]=some e:=by rw[n];exact setCells_one l
 have u:setCells e (i*5+2) [ak a]=some h:=by rw[C];exact setCells_one (by rw[n];simpa using o)
 have l:p.get b=some (.cells e (.n 5)):=by rw[q];exact bO
 have R:D.get b=some (.cells h (.n 5)):=by rw[s];exact bO
 have o:ey e 5 cs.length λj=>(if j=i then{cs.getD i bY with low:=ah} else cs.getD j bY:a1).cells:=by
  rw[n];exact m.set az (by decide) _ (by rw[B i az];simp[a1.cells]) λj f c=>by simp[c,B j f]
 have S:ey h 5 cs.length λj=>(if j=i then{cs.getD i bY with low:=ah,up:=a} else cs.getD j bY:a1).cells:=by
  rw[C];exact o.set az (by decide) _ (by simp[a1.cells]) λj _ c=>by simp[c]
 have e:pm.may b=true:=g.may k;have m:K pm H p:=by rw[q];exact aC.put y k z (by simp) _
 have n:K pm H D:=by rw[s];exact aC.put m k l (by simp) _
 simp[az,z,t,e,<-q,l,u,<-s];refine I _ _ _ ?_;simp;have E:(q1 cs i ah a).length=cs.length:=by simp[q1]
 rw[E];refine⟨n,eS.e (ah:=H.next) (az:=x.next) (.inr ⟨b,h,k,Q,rfl,R,S⟩) λj f=>?_⟩;refine⟨_,?_,rfl⟩;have b:j<(q1 cs i ah a).length:=by rw[E];exact f
 have:=pX (cs:=cs) (i:=i) (j:=j) (c:={cs.getD i bY with low:=ah,up:=a}) (d:=bY) az;rw[<-this];show(q1 cs i ah a)[j]? = some ((q1 cs i ah a).getD j bY);rw[e5,en b];rfl
end Go.Dam.C
namespace Go.Dam.C
open Go Go.Dam
variable{X:aA}{pm cu:Perm}{H ab bX ai:ae}{n p aX aH cI e9 fE c3:Nat}{cL dF jS:Value}{deep:Bool}{s:bV}{cs:List a1}
theorem eW.perm(k:eW pm p aX aH e9 fE H ab)(b7:cu.num=none)(cH:cu.ah<=ab.next):eW cu p aX aH e9 fE H ab:=⟨k.h.perm b7 cH,k.next,k.get,k.cf,k.t,k.r⟩
theorem fY.k(h:fY H p cL dF deep c3 s aX aH cI)(g:bl pm H)(k:K pm H ab):fY ab p cL dF deep c3 s aX aH cI:=by
 let⟨d,c,f,i,j,l,a,m,n,o,r⟩:=h;have e:∀b y,e7 p aX aH b->H.get b=some y->e7 p aX aH b/\ab.get b=some y:=λb y a e=>⟨a,k.some g e⟩;exact⟨d,⟨c.1.imp λ_ q=>k.some g q,c.2.imp λ_ q=>k.some g q⟩,f,i,j,l,k.some g a,m.imp e λL q=>k.some g q,n.imp (λb y a h=>⟨a,(e b y a.f h).2⟩) λL q=>k.some g q,o.imp (λb y a h=>⟨a,(e b y a.f h).2⟩),r.up k⟩
theorem fY.lt(h:fY H p cL dF deep c3 s aX aH cI)(g:bl pm H):p<H.next/\aX<H.next/\aH<H.next:=by
 let⟨_,⟨⟨_,a⟩,_,b⟩,_,_,_,_,c,_⟩:=h;exact⟨g.lt c,g.lt a,g.lt b⟩
theorem fY.new(h:fY H p cL dF deep c3 s aX aH cI)(g:bl pm H){aW k w:Nat}{v:Value}{P:Nat->List Value->Prop}(a:ds ab aW v k w P)(b:H.next<=aW):hh ab (e7 p aX aH) v k w P:=by
 obtain⟨_,_,_⟩:=h.lt g;exact a.p.imp (λ_ _ _ e=>⟨⟨by omega,by omega,by omega⟩,e⟩) λ_ _ _ h=>h
theorem b4.S6(k:eW pm p aX aH e9 fE H ab){w:Value}{q:Rat}(h:b4 H w q):b4 ab w q:=let ⟨b,a,c⟩:=h;⟨b,a,k.cf b _ c⟩
theorem gp.set{A:Nat->Prop}{v eN:Value}{l:List cz}(h:gp H A aH v l){k:Nat}(p:k<l.length)(x:cz)(g:j8 H A eN x.d)(j:∀b,A b->b≠aH):
 ∃L ea,v=.slice (some ⟨aH,0,none⟩) l.length l.length/\H.get aH=some (.cells L (.n 5))/\L.length=l.length*5/\setCells L (k*5) (x.cells eN)=some ea/\gp (H.put aH (.cells ea (.n 5))) A aH v (l.set k x):=by
 rcases h with⟨_,e⟩ | ⟨rfl,L,cD,f,dS,gf⟩
 ·grind
 ·have h:=dS.1;have a:k*5+5<=l.length*5:=by omega
  have m:∃ea,setCells L (k*5) (x.cells eN)=some ea:=by
   unfold setCells;rw[cJ,hd (show k*5+(x.cells eN).length<=L.length by simp[cz.cells];omega)];exact⟨_,rfl⟩
  obtain⟨ea,c⟩:=m;obtain⟨_,_,n⟩:=vf c;have o:(x.cells eN).length=5:=rfl;have d:∀b y,A b->H.get b=some y->A b/\(H.put aH (.cells ea (.n 5))).get b=some y:=λb y a e=>⟨a,by rw[a6 (j b a)];exact e⟩;refine⟨L,ea,rfl,cD,h,c,.inr ⟨by simp,ea,bO,λj=>if j=k then x.cells eN else f j,⟨by simp;omega,λj a=>?_⟩,λi c=>?_⟩⟩
  ·have a:j<l.length:=by simpa using a
   by_cases e:j=k
   ·grind
   ·simp only[e,if_false];refine⟨(dS.2 j a).1,λq b=>?_⟩;rw[n,o,aw (by omega)];exact(dS.2 j a).2 q b
  ·have b:i<l.length:=by simpa using c
   by_cases e:i=k
   ·subst e;simp only[List.getElem_set_self,if_true];exact⟨eN,rfl,g.imp d⟩
   ·simp only[List.getElem_set_ne (Ne.symm e),e,if_false];exact(gf i b).imp λeN q=>⟨q.1,q.2.imp d⟩
theorem fY.node(h:fY H p cL dF deep c3 s aX aH cI)(g:bl pm H){k:Nat}(b:k<s.tree.length)(x:cz){eN:Value}(f:j8 H (np p aX aH) eN x.d):
 ∃L ea d i,H.get p=some (.cells (cL::dF::.bool deep::.int .i64 (c3:Int)::d::.slice (some ⟨aH,0,none⟩) s.tree.length s.tree.length::i) (.t h1))/\H.get aH=some (.cells L (.n 5))/\L.length=s.tree.length*5/\setCells L (k*5) (x.cells eN)=some ea/\
  fY (H.put aH (.cells ea (.n 5))) p cL dF deep c3 {s with tree:=s.tree.set k x} aX aH cI/\eW pm p aX aH aX aH H (H.put aH (.cells ea (.n 5))):=by
 obtain⟨j,l,c,_,m,o,a,q,r,t,v⟩:=h;obtain⟨L,ea,rfl,d,i,w,z⟩:=r.set b x f λb a=>a.2.2;have r:p≠aH:=λe=>by grind
 have f:∀b y,e7 p aX aH b->H.get b=some y->e7 p aX aH b/\(H.put aH (.cells ea (.n 5))).get b=some y:=λb y a e=>⟨a,by rw[a6 a.2.2];exact e⟩;have u:=aC.put (n:=0) (.refl g) (Nat.zero_le _) d (by simp) (.cells ea (.n 5));refine⟨L,ea,c,_,a,d,i,w,⟨j,⟨?_,_,bO⟩,c,_,m,o,by rw[a6 r];simpa using a,q.imp f λ_ e=>?_,by simpa using z,t.imp (λb y a e=>⟨a,(f b y a.f e).2⟩),v.up u⟩,⟨u.h,u.next,λb _ h=>a6 h.2.2,u.cf,.inl rfl,.inl rfl⟩⟩
 ·by_cases e:aX=aH
  ·simp_all
  ·rw[a6 e];exact l.1
 ·by_cases a:aX=aH
  ·grind
  ·rw[a6 a];exact e
abbrev JO:Nat:=T.acC
theorem getD_at{cs:List a1}{i:Nat}(az:i<cs.length):cs[i]? = some (cs.getD i bY):=by
 grind
theorem Vp(f:nw X)(g:bl pm H)(aL:pm.ah<=p)(h:fY H p cL dF deep c3 s aX aH cI){k i:Nat}(W:hh H (e7 p aX aH) jS cs.length 5 (gA cs))(hk:k<s.tree.length)(az:i<cs.length)(aM:cs.length<=1000){w:Value}{v:Rat}(hw:b4 H w v)
 (sv:bo v=true) (sf:bo (v.floor:Rat)=true) (aY:bo ((v.floor:Rat)+1)=true) (hn:s.tree.length<=900) (ht:s.todo.length<=900):
 Call X pm F.sl [.pointer (some ⟨p,0,none⟩),.agg #[.int .i64 (k:Int),jS],.int .i64 (i:Int),w] H λ_ ab=>∃e9 fE aZ,fY ab p cL dF deep c3 (s.branch k cs i v) e9 fE aZ/\eW pm p aX aH e9 fE H ab:=by
 refine Call.W f.sl rfl λ_ hQ=>?_;obtain⟨cb,Y,Z⟩:=W.form;obtain⟨_,_,e2,_,a1⟩:=id W;subst Z;cases e2;have aZ:cb≠none:=λZ=>by grind
 cases cb with
 | none=>grind
 | some _=>
 obtain⟨b,N,y,a6,rfl,_,hy,a7,_,a8⟩:=a1 _ rfl;obtain⟨_,aN,_,aO,rfl⟩:=a8 i az;rw[getD_at az]at aO;cases aO;obtain⟨c,hc⟩:∃c,c=cs.getD i bY:=⟨_,rfl⟩;rw[<-hc]at aN;have a_:bB a6 (N+i*5) 5=some [ak c.name,ak c.low,ak c.up,ak c.cost,.bool c.int]:=aN;obtain⟨l,ao⟩:∃b,b=H.next:=⟨_,rfl⟩;obtain⟨H1,aa⟩:∃A,A=H.new (.cells [.int .i64 (k:Int),.slice (some ⟨b,N,none⟩) cs.length Y] (.t ma)):=⟨_,rfl⟩;have k1:K pm H H1:=by rw[aa];exact K.new g _
 have g1:=k1.h;have n1:H1.next=l+1:=by rw[aa,ao];rfl
 have aN:H1.get l=some (.cells [.int .i64 (k:Int),.slice (some ⟨b,N,none⟩) cs.length Y] (.t ma)):=by rw[aa,ao];exact cc
 simp[g.pick,g.make,ptr,<-ao,<-aa,-L5,-L4];refine al.of (aq:=[w]) (Un f.toEL g1 (hw.up k1).of sv) ?_;rintro r H2 ⟨k2,ba⟩;have O:=k2.h;have aa:=k2.next;have aP:=k1.trans k2;have aQ:=k2.some g1 aN;have bb:=aP.some g hy;obtain⟨j,B⟩:∃b,b=H2.next:=⟨_,rfl⟩;have bc:pm.may j=true:=O.may (by omega);have bd:∀aa,(H2.new aa).get j=some aa:=λaa=>by simp_all
 obtain⟨t,ad⟩:∃A,A=(H2.new (.cells [.string ⟨#[]⟩,.string ⟨#[]⟩,.string ⟨#[]⟩,.string ⟨#[]⟩,.bool false] (.t JO))).put j (.cells [ak c.name,ak c.low,ak c.up,ak c.cost,.bool c.int] (.t JO)):=⟨_,rfl⟩;have k3:K pm H2 t:=by rw[ad,B];exact gh O _ _
 have q:=k3.h;have n3:t.next=j+1:=by rw[ad,B];rfl
 have ae:=aP.trans k3;have ar:t.get j=some (.cells [ak c.name,ak c.low,ak c.up,ak c.cost,.bool c.int] (.t JO)):=by rw[ad];exact bO
 have au:=k3.some O aQ;have af:=ba.up k3;have av:=h.k g ae;simp[aQ,az,bb,a7,a_,O.pick,O.make,ptr,bA,<-B,bd,bc,setCells,<-ad,-L3];refine cx.of q.ah rfl ?_;obtain⟨z,P⟩:∃z,z=t.next:=⟨_,rfl⟩;have Q:K pm t (t.up 11):=(K.refl q).up 11;have aw:=λu=>(by rw[P];exact q.none u:(t.up 11).get (z+u)=none);have O:=(by rw[P];exact q.O:(t.up 11).get z=none);rw[<-P];simp[b8,aw,O,au,ar];refine cY Q.h (aq:=[r]) (by simp[aw]) rfl (λcu d=>g' d (mn f.toEL d (af.up Q).of sf)) ?_;rintro _ _-⟨rfl,rfl⟩;simp;refine fG Q.h (aq:=[.slice (some ⟨b,N,none⟩) cs.length Y,.int .i64 (i:Int),ak c.low,ak (bk (v.floor:Rat))]) (by simp[aw]) rfl (λcu d=>ND f d (W.e.imp ((ae.trans Q).ext g) λ_ _ _ h=>h) az aM) ?_;rintro aa _ O h4;have R:=O.h;have G:=K.trans Q O;have ax:=O.res q;rw[<-P]at ax;have bf:=av.k q G;have Q:(t.up 11).next=z+11:=by rw[P];rfl
 have t:=O.next;have t:q1 cs i c.low (bk (v.floor:Rat))=h2 cs i (bk (v.floor:Rat)):=by rw[hc];rfl
 rw[t]at h4;have bg:=av.new q h4 (by omega);obtain⟨_,_,_⟩:=av.lt q;obtain⟨_,_,_⟩:=h.lt g;simp;refine d'.fixed (aq:=[.pointer (some ⟨p,0,none⟩),aa]) (by simp[ax]) (by simp) (by simp) rfl (E2 f (R.perm rfl R.ah) aL bf bg (by omega) (by omega)) ?_;rintro _ I ⟨bh,bj,_,rfl,ay,e⟩;have e:=e.perm (cu:=pm) g.num (by have:=e.next;grind);have a:=e.h;have t:=e.next;have f5:e7 p aX aH l:=⟨by omega,by omega,by omega⟩;have t:e7 p aX aH j:=⟨by omega,by omega,by omega⟩;have S:=e.some R f5 (G.some q au);have ag:=e.some R t (G.some q ar);have ai:=(af.up G).S6 e;have bl:=e.S7 R (W.imp (λb y q Z=>⟨q,(K.trans ae G).some g Z⟩) λ_ _ _ h=>h) λ_ _ _ h=>h;have q:∀m,c6 (dj m [r]) [l]=true:=λm=>jT af au m;have t:∀m,c6 (dj m [r]) [j]=true:=λm=>jT af ar m;simp[b3,bZ, cU,q,t,show l<z by omega,show j<z by omega,-tO];refine⟨(e.get _ (by omega) ⟨by omega,by omega,by omega⟩).trans (ax 10 (by decide)),?_⟩;have q:=ay.lt a;have q:=a.lt S;have q:=a.lt ag;refine cx.of a.ah rfl ?_;obtain⟨T,C⟩:∃z,z=I.next:=⟨_,rfl⟩;have kV:K pm I (I.up 13):=(K.refl a).up 13;have q:=λu=>(by rw[C];exact a.none u:(I.up 13).get (T+u)=none);have t:=(by rw[C];exact a.O:(I.up 13).get T=none);have z:(I.up 13).next=T+13:=by rw[C];rfl
 rw[<-C];simp[b8,q,t,S,ag,-tO];refine cY kV.h (aq:=[.int .i64 1]) (by simp[q]) rfl (λcu d=>ml f.toEL d (n:=1) (by decide) (by decide)) ?_;rintro on _ J aj;have t:=J.h;have L:=K.trans kV J;have q:=J.res a;rw[<-C]at q;have z:((1:Int):Rat)=1:=rfl;rw[z]at aj;simp[-tO];have bm:bo (1:Rat)=true:=by decide +kernel
 refine cY t (aq:=[r,on]) (by simp[q]) rfl (λcu d=>n8 f.toEL d (ai.up L).of aj.of sf bm) ?_;rintro aA _ U aB;have g7:=U.h;have an:=K.trans L U;have aC:=(K.trans J U).res a;rw[<-C]at aC;simp[-tO];refine cY g7 (aq:=[aA]) (by simp[aC]) rfl (λcu d=>g' d (mn f.toEL d aB.of aY)) ?_;rintro _ _-⟨rfl,rfl⟩;simp[-tO];refine fG g7 (aq:=[.slice (some ⟨b,N,none⟩) cs.length Y,.int .i64 (i:Int),ak (bk ((v.floor:Rat)+1)),ak c.up]) (by simp[aC]) rfl (λcu d=>ND f d (bl.e.imp (an.ext a) λ_ _ _ h=>h) az aM) ?_;rintro z _ q t;have g8:=q.h;have aR:=K.trans an q;have aD:=(K.trans J (K.trans U q)).res a;rw[<-C]at aD;have bn:=ay.k a aR;have C:q1 cs i (bk ((v.floor:Rat)+1)) c.up=ig cs i (bk ((v.floor:Rat)+1)):=by rw[hc];rfl
 rw[C]at t;have c:=J.next;have c:=U.next;have c:=q.next;have bp:=ay.new a t (by omega);simp[-tO];refine d'.fixed (aq:=[.pointer (some ⟨p,0,none⟩),z]) (by simp[aD]) (by simp) (by simp) rfl (E2 f (g8.perm rfl g8.ah) aL bn bp (by simp[bV.U];omega) (by simp[bV.U];omega)) ?_;rintro _ M ⟨aS,V,bq,rfl,aE,D⟩;have D:=D.perm (cu:=pm) g.num (by have:=D.next;grind);have x:=D.h;have c:=D.next;have aF:=(eW.p7 (p:=p) (aX:=bh) (aH:=bj) aR).trans D;have c:=e.GV (by omega) f5;have aG:=aF.some a c S;have aI:=ai.S6 aF;have d3:∀m,c6 (dj m [r,on]) [l]=true:=λm=>kI (ai.up L) aj (L.some a S) m;have d4:∀m,c6 (dj m [r,on]) [j]=true:=λm=>kI (ai.up L) aj (L.some a ag) m;have d5:∀m,c6 (dj m [aA]) [l]=true:=λm=>jT aB (an.some a S) m;have d6:∀m,c6 (dj m [aA]) [j]=true:=λm=>jT aB (an.some a ag) m;have d7:∀m,dj m [Value.int .i64 1]=[]:=λm=>rfl;simp[b3,bZ,fT,cU,d3,d4,d5,d6,d7,show l<T by omega,show j<T by omega];refine⟨(D.get _ (by omega) ⟨by omega,by omega,by omega⟩).trans (aD 12 (by decide)),?_⟩;have a:k<((s.U (h2 cs i (bk (v.floor:Rat)))).U (ig cs i (bk ((v.floor:Rat)+1)))).tree.length:=by simp[bV.U];omega
 have E:K pm M (M.up 14):=(K.refl x).up 14;have aT:=E.h;obtain⟨br,L',_,_,B,aU,bs,bt,aV,aW⟩:=(aE.k x E).node aT a ⟨i,bk (v.floor:Rat),s.tree.length,s.tree.length+1,[]⟩ (eN:=.slice none 0 0) ⟨.nil,λ_ _ _ _ h=>(by cases h)⟩;have a:((s.U (h2 cs i (bk (v.floor:Rat)))).U (ig cs i (bk ((v.floor:Rat)+1)))).tree.length=s.tree.length+2:=by simp[bV.U]
 rw[a]at B bs;refine cx.of x.ah rfl ?_;obtain⟨y,aJ⟩:∃y,y=M.next:=⟨_,rfl⟩;have aK:=λu=>(by rw[aJ];exact x.none u:(M.up 14).get (y+u)=none);have c:=(by rw[aJ];exact x.O:(M.up 14).get y=none);rw[<-aJ];have a:=B;simp only[r4]at a aU;simp[b8,aK,c,aG,a];refine cY aT (aq:=[r]) (by simp[aK]) rfl (λcu d=>g' d (mn f.toEL d (aI.up E).of sf)) ?_;rintro _ _-⟨rfl,rfl⟩;obtain⟨A,hA⟩:∃A,A=(M.up 14).put V (.cells L' (.n 5)):=⟨_,rfl⟩;have a:∀m,c6 (dj m [r]) [p]=true:=λm=>jT (aI.up E) B m;have c:∀m,c6 (dj m [r]) [l]=true:=λm=>jT (aI.up E) (E.some x aG) m;have d:(((s.U (h2 cs i (bk (v.floor:Rat)))).tree.length:Nat):Int)=(s.tree.length:Int)+1:=by simp[bV.U]
 have f:setCells br (k*5) [.int .i64 (i:Int),ak (bk (v.floor:Rat)),.int .i64 (s.tree.length:Int),.int .i64 ((s.tree.length:Int)+1),.slice none 0 0]=some L':=bt;have j:=aE.lt x;have j:=λo=>ej (ah:=pm.ah) (ok:=pm.ok) (o:=o) (b:=V) (by have:=aE.ge;omega);have m:=x.lt aG;rw[<-hA]at aV aW;simp[aK,fill,d,show k<s.tree.length+2 by omega,bA,aU,f,j,<-hA,b3,bZ, cU,a,c,show p<y by omega,show l<y by omega,show V<y by omega];refine hQ _ _ _ ?_;simp;have a:eW pm p aX aH aS V H A:=(((eW.p7 (p:=p) (aX:=aX) (aH:=aH) (K.trans ae G)).trans e).trans aF).trans ((eW.p7 E).trans aW);exact⟨aS,V,⟨bq,aV⟩,a⟩
end Go.Dam.C
namespace Go.Dam.C
open Go Go.Dam
variable{X:aA}{pm:Perm}{H ab bX ai:ae}{n:Nat}
theorem V'{aX cI k n ah dZ kG:Nat}{fJ:List Nat}{L:List Value}(h:H.get aX=some (.cells L (.n 2)))(g:L.length=cI*2)(q:k+1+n<=cI)(i:∀j,j<(k+1+n)*2->∃v,L[j]? = some v/\dd v=true)(l:Perm.may ⟨ah,fJ,some dZ⟩ aX=true):
 ∃a ab F M,(fz 2 (.slice (some ⟨aX,(k+1)*2,none⟩) n kG) λnew m=>fj 2 32 (.slice (some ⟨aX,0,none⟩) k cI) new m).runT ⟨ah,fJ,some dZ⟩ H=some (.slice (some ⟨aX,0,none⟩) (k+n) cI,ab,F,M)/\ab.get aX=some (.cells a (.n 2))/\a.length=cI*2/\
  (∀b,b≠aX->ab.get b=H.get b)/\ab.next=H.next/\(∀x∈F,x=aX)/\(∀j,j<(k+n)*2->a[j]? = if j<k*2 then L[j]? else L[j+2]?)/\(∀{aW:Nat} {ai:ae} {pm:Perm},aC pm aW ai H->aW<=aX->aC pm aW ai ab):=by
 have c:bB L ((k+1)*2) (n*2)=some ((L.drop ((k+1)*2)).take (n*2)):=pW (by omega);by_cases e:n=0
 ·subst e;refine⟨L,H,[aX],[],?_,h,g,λ_ _=>rfl,rfl,by simp,λj _=>by rw[aL (by omega)],λu _=>u⟩;unfold fz;simp only[bf.runT,h,rowOf,c];unfold fj;simp[bf.runT]
 ·have m:((L.drop ((k+1)*2)).take (n*2)).all dd=true:=by
   rw[eA];intro v d;obtain⟨j,b,rfl⟩:=tp d;have d:j<n*2:=by simp at b;omega
   obtain⟨v,f,g⟩:=i ((k+1)*2+j) (by omega);have:((L.drop ((k+1)*2)).take (n*2))[j]? = some v:=by rw[jY d,jZ];exact f
   rw[en b]at this;rw[jH this];exact g
  have d:((L.drop ((k+1)*2)).take (n*2)).length=n*2:=by simp;omega
  have o:∃g,setCells L (k*2) ((L.drop ((k+1)*2)).take (n*2))=some g:=by
   unfold setCells;rw[cJ,hd (by rw[d];omega)];exact⟨_,rfl⟩
  obtain⟨a,f⟩:=o;obtain⟨_,_,p⟩:=vf f;refine⟨a,H.put aX (.cells a (.n 2)),[aX,aX],[aX],?_,bO,by omega,λb a=>a6 a,rfl,by simp,λj _=>?_,λu a=>aC.put u a h (by simp) _⟩
  ·unfold fz;simp only[bf.runT,h,rowOf,c];unfold fj;simp[e,show k+n<=cI by omega,putRow,h,m,f,l]
  ·rw[p,d];by_cases a:j<k*2
   ·rw[aL a,aw (by omega)]
   ·rw[aw a,aL (by omega),jY (by omega),jZ];congr 1;omega
theorem S8{c off l h m cap:Nat}{cs:List Value}{IN:Perm}(a:H.get c=some (.cells cs (.n 2)))(b7:l<=h)(cH:h<=m)(b:m<=cap):
 (jU 2 (some ⟨c,off,none⟩) l h m cap).runT IN H=some (.slice (some ⟨c,off+l*2,none⟩) (h-l) (m-l),H,[c],[]):=by
 unfold jU;simp[b7,cH,b,a,bf.runT]
theorem Ua(x:Has X F.pa C.pa)(g:bl pm H){aX cI k len:Nat}{L:List Value}(h:H.get aX=some (.cells L (.n 2)))(y:L.length=cI*2)(A:len<=cI)(W:k<len)(W:len<=1000000)(B:∀j,j<len*2->∃v,L[j]? = some v/\dd v=true)(p:pm.ah<=aX):
 Call X pm F.pa [.slice (some ⟨aX,0,none⟩) len cI,.int .i64 (k:Int),.int .i64 ((k:Int)+1)] H λr ab=>r=.slice (some ⟨aX,0,none⟩) (len-1) cI/\∃ea,ab.get aX=some (.cells ea (.n 2))/\ea.length=cI*2/\(∀b,b≠aX->ab.get b=H.get b)/\(∀j,j<(len-1)*2->ea[j]? = if j<k*2 then L[j]? else L[j+2]?)/\aC pm aX H ab:=by
 refine Call.W x rfl λ_ C=>?_;have x:=g.lt h;obtain⟨z,e⟩:∃z,z=H.next:=⟨_,rfl⟩;have D:K pm H (H.up 8):=(K.refl g).up 8;have q:=λj=>(by rw[e];exact g.none j:(H.up 8).get (z+j)=none);have E:=(by rw[e];exact g.O:(H.up 8).get z=none);obtain⟨a,G⟩:∃a,a=len-(k+1):=⟨_,rfl⟩;obtain⟨x,f,F,_,I,i,_,s,_,J,M,N⟩:=V' (H:=H.up 8) (aX:=aX) (cI:=cI) (k:=k) (n:=a) (ah:=pm.ah) (dZ:=z+6) (kG:=cI-(k+1)) (fJ:=pm.ok) (L:=L) h y (by omega) (λj O=>B j (by omega)) (ej p);have P:∀j,f.get (z+j)=none:=λj=>by rw[s _ (by omega)];exact q j
 have Q:∃c,setCells x ((k+a)*2) [.int .i64 0,.slice none 0 0]=some c:=by
  unfold setCells;rw[cJ,hd (by simp;omega)];exact⟨_,rfl⟩
 obtain⟨c,t⟩:=Q;obtain⟨_,_,R⟩:=vf t;obtain⟨S,d⟩:∃x,x=f.put aX (.cells c (.n 2)):=⟨_,rfl⟩;have T:pm.may aX=true:=ej p;have p:wr .i64 ((k:Int)+1)=(k:Int)+1:=cE;have u:c8 (some (Value.int .i64 ((k:Int)+1)))=some (k+1):=by
  have:((k:Int)+1)=((k+1:Nat):Int):=by simp
  rw[this];simp[c8]
 have p:k+a=len-1:=by omega
 have p:aC pm aX H f:=N (D.mono (by omega)) (bc _);have U:aC pm aX H S:=by rw[d];exact aC.put p (bc _) i (by simp) _
 have V:=DM (pm:=pm) (cn:=2) (off:=0) (m:=len) (cap:=cI) h (.inl rfl) (show k<=k+1 by omega) (by omega) A;have v:=S8 (H:=H.up 8) (off:=0) (l:=0) (h:=k) (m:=cI) (cap:=cI) (IN:=⟨pm.ah,pm.ok,some (z+2)⟩) h (by omega) (by omega) (bc _);have o:=S8 (H:=H.up 8) (off:=0) (l:=k+1) (h:=len) (m:=cI) (cap:=cI) (IN:=⟨pm.ah,pm.ok,some (z+5)⟩) h (by omega) (by omega) (bc _);rw[<-G]at o;simp only[Nat.zero_mul,Nat.zero_add,Nat.sub_zero]at v o;simp[u,V,show ¬(k:Int)=(k:Int)+1 by omega,-DF];refine cx.of g.ah rfl ?_;rw[<-e];simp[b8,q,E,u,v,o,I,P,show aX<z by omega,b3,bZ, -fz,-DF];refine⟨λx e=>.inl (.inl (.inl (by have:=J x e;omega))),?_⟩;have w:=DM (pm:=pm) (cn:=2) (off:=0) (l:=k+a) (h:=len) (m:=cI) (cap:=cI) i (.inl rfl) (by omega) (by omega) (bc _);rw[show len-(k+a)=1 by omega,Nat.zero_add]at w;have e:c8 (some (Value.int .i64 ((k:Int)+(a:Int))))=some (k+a):=by
  have:((k:Int)+(a:Int))=((k+a:Nat):Int):=by simp
  rw[this];simp[c8]
 simp[e,w,y1,times,i,t,T,<-d];refine C _ _ _ ?_;simp;refine⟨by omega,c,by rw[d];exact bO,by omega,λb a=>?_,λj O=>?_,U⟩
 ·rw[d,a6 a,s b a];rfl
 ·rw[R,aw (by omega)];exact M j (by omega)
variable{p aX aH cI c3:Nat}{cL dF:Value}{deep:Bool}{s:bV}
theorem WR{α:Type}{l:List α}{k i:Nat}(a:k<l.length)(az:i<(l.eraseIdx k).length):∃h,(l.eraseIdx k)[i]=l[if i<k then i else i+1]'h:=by
 have b:(l.eraseIdx k).length=l.length-1:=by rw[List.length_eraseIdx,aL a]
 have h:(if i<k then i else i+1)<l.length:=by split<;>omega
 refine⟨h,?_⟩;rw[List.getElem_eraseIdx];by_cases e:i<k<;>simp[e]
theorem Y3(S:nw X)(g:bl pm H)(aj:pm.ah<=p)(h:fY H p cL dF deep c3 s aX aH cI)(T:s.todo≠[])(hn:s.todo.length<=1000):
 Call X pm F.sr [.pointer (some ⟨p,0,none⟩)] H λr ab=>∃x z,s.todo[lr deep s.todo.length]? = some x/\r=.agg #[.int .i64 (x.1:Int),z]/\hh ab (e7 p aX aH) z x.2.length 5 (gA x.2)/\fY ab p cL dF deep c3 (s.del (lr deep s.todo.length)) aX aH cI/\eW pm p aX aH aX aH H ab:=by
 refine Call.W S.sr rfl λan hQ=>?_;obtain⟨⟨ao,ar⟩,au,_,B,D,E,a,av,ax,ay,az⟩:=h;have lp:=g.lt a;have aU:0<s.todo.length:=rT.2 T
 rcases av with⟨_,e,_⟩ | ⟨rfl,WW,L,a',G5,G6⟩
 ·exact absurd e T
 have T:=g.lt a';have U:p≠aX:=λe=>by rw[<-e,a]at a';cases a'
 obtain⟨k,m⟩:∃k,k=lr deep s.todo.length:=⟨_,rfl⟩;have n:k<s.todo.length:=by rw[m];unfold lr;split<;>omega
 obtain⟨x,V⟩:∃x,x=s.todo[k]:=⟨_,rfl⟩;obtain⟨W,z,aA,P⟩:=G6 k n;rw[<-V]at W P;have aB:bB L (k*2) 2=some [.int .i64 (x.1:Int),z]:=by
  rw[pW (by omega)];congr 1;apply n4;intro j
  rcases j with _ | _ | j
  ·rw[jY (by decide),jZ];simpa using W
  ·rw[jY (by decide),jZ];simpa using aA
  ·rw[hc (by simp;omega)];simp
 have aD:∀j,j<s.todo.length*2->∃z,L[j]? = some z/\dd z=true:=λj Y=>by
  obtain⟨g,i,h,l⟩:=G6 (j/2) (by omega)
  rcases Nat.mod_two_eq_zero_or_one j with e | e
  ·rw[show j/2*2=j by omega]at g;exact⟨_,g,rfl⟩
  ·rw[show j/2*2+1=j by omega]at h;obtain⟨b,_,e⟩:=l.form;exact⟨i,h,by rw[e];rfl⟩
 obtain⟨d,G⟩:∃b,b=H.next:=⟨_,rfl⟩;obtain⟨c,t⟩:∃A,A=H.new (.cells [.int .i64 0,.slice none 0 0] (.t ma)):=⟨_,rfl⟩;have I:K pm H c:=by rw[t];exact K.new g _
 have f:=I.h;have j:c.next=d+1:=by rw[t,G];rfl
 have aE:c.get d=some (.cells [.int .i64 0,.slice none 0 0] (.t ma)):=by rw[t,G];exact cc
 have J:=I.some g a;have Z:=I.some g a';obtain⟨o,M⟩:∃b,b=c.next:=⟨_,rfl⟩;have aG:pm.may d=true:=g.may (by omega);have aI:pm.may o=true:=f.may (by omega);have aJ:∀x,(c.new x).get o=some x:=λx=>by rw[M];exact cc
 obtain⟨u,v,aK⟩:=P.form;subst aK;obtain⟨Q,N⟩:∃A,A=(c.new (.cells [.int .i64 0,.slice none 0 0] (.t ma))).put o (.cells [.int .i64 (x.1:Int),.slice u x.2.length v] (.t ma)):=⟨_,rfl⟩;have j:K pm c Q:=by rw[N,M];exact gh f _ _
 have z:=j.h;have aa:=I.trans j;have I:Q.next=o+1:=by rw[N,M];rfl
 have ad:=j.some f J;have I:=j.some f Z;have aM:=j.some f aE;have aN:Q.get o=some (.cells [.int .i64 (x.1:Int),.slice u x.2.length v] (.t ma)):=by rw[N];exact bO
 have Q:wr .i64 ((k:Int)+1)=(k:Int)+1:=cE;have aO:wr .i64 ((s.todo.length:Int)-1)=((s.todo.length-1:Nat):Int):=by rw[cE];omega
 have ae:∀j,aF 0 j=some (.pointer (some ⟨p,0,none⟩))->aF 2 j=some (.pointer (some ⟨d,0,none⟩))->aF 3 j=some (.int .i64 (k:Int))->wp X pm (.code C.AR) j c [] an:=λj c l2 j=>by
  simp[c,j,J,n,Z,aB,f.pick,f.make,ptr,bA,<-M,aJ,aI,setCells,<-N,Q,ad,-Md];refine al.of (aq:=[.slice (some ⟨aX,0,none⟩) s.todo.length cI,.int .i64 (k:Int),.int .i64 ((k:Int)+1)]) (Ua S.pa z I G5 WW n (by omega) aD (by omega)) ?_;rintro _ X ⟨rfl,L',aF,aP,C,ab,L⟩;have c:=L.h;have c:=L.next;have af:=(C p U).trans ad;obtain⟨r,i⟩:∃A,A=X.put p (.cells [cL,dF,.bool deep,.int .i64 (c3:Int),.slice (some ⟨aX,0,none⟩) (s.todo.length-1) cI,B,.int .i64 s.L.st,ak s.L.val,D,.slice none 0 0,.slice none 0 0,E] (.t h1)):=⟨_,rfl⟩;have aQ:r.get p=some (.cells [cL,dF,.bool deep,.int .i64 (c3:Int),.slice (some ⟨aX,0,none⟩) (s.todo.length-1) cI,B,.int .i64 s.L.st,ak s.L.val,D,.slice none 0 0,.slice none 0 0,E] (.t h1)):=by rw[i];exact bO
  have aR:r.get o=some (.cells [.int .i64 (x.1:Int),.slice u x.2.length v] (.t ma)):=by rw[i,a6 (by omega),C _ (by omega)];exact aN
  have ag:r.get d=some (.cells [.int .i64 0,.slice none 0 0] (.t ma)):=by rw[i,a6 (by omega),C _ (by omega)];exact aM
  obtain⟨l,q⟩:∃A,A=r.put d (.cells [.int .i64 (x.1:Int),.slice u x.2.length v] (.t ma)):=⟨_,rfl⟩;have c:l.get d=some (.cells [.int .i64 (x.1:Int),.slice u x.2.length v] (.t ma)):=by rw[q];exact bO
  have d:pm.may p=true:=ej aj;simp[af,d,setCells,<-i,aR,ag,aG,bB,bA,<-q, l2];refine hQ _ _ _ ?_;simp[ft,c,bB,bA,l2];have c:aC pm p H r:=by rw[i];exact aC.put ((aC.trans (aC.mono aa (by omega)) (aC.mono L (by omega)):aC pm p H X)) (bc _) af (by simp) _
  have F:aC pm p H l:=by rw[q];exact aC.put c (by omega) ag (by simp) _
  have K:∀b,b<H.next->b≠p->b≠aX->l.get b=H.get b:=λb c d f=>by
   rw[q,a6 (by omega),i,a6 d,C b f];exact aa.get b c
  have w:∀b y,e7 p aX aH b->H.get b=some y->e7 p aX aH b/\l.get b=some y:=λb y h e=>⟨h,by rw[K b (g.lt e) h.1 h.2.1];exact e⟩;have R:l.get aX=some (.cells L' (.n 2)):=by rw[q,a6 (by omega),i,a6 (Ne.symm U)];exact aF
  have ah:l.get p=some (.cells [cL,dF,.bool deep,.int .i64 (c3:Int),.slice (some ⟨aX,0,none⟩) (s.todo.length-1) cI,B,.int .i64 s.L.st,ak s.L.val,D,.slice none 0 0,.slice none 0 0,E] (.t h1)):=by rw[q,a6 (by omega)];exact aQ
  have aS:s.todo[lr deep s.todo.length]? = some x:=by rw[<-m,V,en n]
  have ai:(s.todo.eraseIdx k).length=s.todo.length-1:=by rw[List.length_eraseIdx,aL n]
  obtain⟨f,c⟩:=au.2;have aT:∃y,l.get aH=some y:=by
   by_cases e:aH=p
   ·rw[e];exact⟨_,ah⟩
   ·by_cases d:aH=aX
    ·rw[d];exact⟨_,R⟩
    ·exact⟨f,by rw[K aH (g.lt c) e d];exact c⟩
  rw[<-m];refine⟨x.1,x.2,?_,_,⟨rfl,rfl⟩,P.imp w λ_ _ _ h=>h,⟨⟨ao,ar⟩,⟨⟨_,R⟩,aT⟩,_,B,D,E,ah,?_,?_,ay.imp λb y a e=>⟨a,(w b y a.f e).2⟩,az.up F⟩,⟨F.h,F.next,λb a h=>K b a h.1 h.2.1,F.cf,.inl rfl,.inl rfl⟩⟩
  ·rw[m];exact aS
  ·refine .inr ⟨by simp[bV.del,ai],by simp only[bV.del];omega,L',R,aP,λi c=>?_⟩;simp only[bV.del]at c|-;obtain⟨Y,e⟩:=WR n c;rw[ai]at c;rw[e];obtain⟨c,g,d,f⟩:=G6 _ Y;rw[ab (i*2) (by omega),ab (i*2+1) (by omega)];by_cases j:i<k
   ·rw[aL (show i*2<k*2 by omega),aL (show i*2+1<k*2 by omega)];simp only[j,if_true]at c d f|-;exact⟨c,g,d,f.imp w λ_ _ _ h=>h⟩
   ·rw[aw (show ¬i*2<k*2 by omega),aw (show ¬i*2+1<k*2 by omega)];simp only[j,if_false]at c d f|-;rw[show(i+1)*2=i*2+2 by omega]at c;rw[show(i+1)*2+1=i*2+1+2 by omega]at d;exact⟨c,g,d,f.imp w λ_ _ _ h=>h⟩
  ·refine ax.imp (λb y a e=>⟨a,(w b y a.f e).2⟩) λ_ e=>?_;have s:aH≠p:=λh=>by rw[h,a]at e;cases e
   have p:aH≠aX:=λh=>by rw[h,a']at e;cases e
   rw[K aH (g.lt e) s p];exact e
 cases O:deep with
 | false=>
   simp[g.pick,g.make,ptr,<-G,<-t,J,O,-AR];refine ae _ (by simp) (by simp) ?_;have:k=0:=by rw[m,O];rfl
   simp[this]
 | true=>
   simp[g.pick,g.make,ptr,<-G,<-t,J,O,aO,-AR];refine ae _ (by simp) (by simp) ?_;have:k=s.todo.length-1:=by rw[m,O];rfl
   simp[this]
end Go.Dam.C
namespace Go.Dam.C
open Go Go.Dam
variable{X:aA}{pm cu:Perm}{H ab bX ai:ae}{n:Nat}
theorem acf{aa:ar}{T:bu}(h:c5 aa)(b:hv aa.j (e6 aa) T):bI e0 (aa.P T.v):=by
 have c:=Q' h.e6 b.inv b.sR h.uY.v1 (λk d=>(b.at' k d).bI h.uY) h.uj.p h.uj.le h.uj.z;refine bI.mono (a:=aa.j.n*(hN aa.a.length*jP aa.j.n ((aa.j.n*hN aa.a.length)^aa.j.n) (mm aa.a.length) eC)+jP aa.j.n ((aa.j.n*hN aa.a.length)^aa.j.n) (mm aa.a.length) eC) c ?_;have b:=h.n;have c:hN aa.a.length<=bS 210:=by
  unfold hN;rw[show eC*eC^aa.a.length=eC^(aa.a.length+1) by rw[eB,eZ],zH,fQ];exact hX (by decide) (by omega)
 have d:jP aa.j.n ((aa.j.n*hN aa.a.length)^aa.j.n) (mm aa.a.length) eC<=bS 1660:=a8 (gj _ _) (M7 b);have e:hN aa.a.length*jP aa.j.n ((aa.j.n*hN aa.a.length)^aa.j.n) (mm aa.a.length) eC<=bS 1870:=by
  have:=gk c d;rwa [pn (show 210+1660=1870 by decide)]at this
 have c:aa.j.n*(hN aa.a.length*jP aa.j.n ((aa.j.n*hN aa.a.length)^aa.j.n) (mm aa.a.length) eC)<=6*bS 1870:=gk b e;have b:bS 1660<=bS 1870:=j4;have b:e0=bS 30*bS 1870:=(pn (show 30+1870=1900 by decide)).symm;have b:7<=bS 30:=a8 (show 7<=bS 1 by rw[fQ];decide) (j4);have c:=fV (bS 1870) b;grind
theorem DO{aa:ar}(h:c5 aa)(d:aa.I=true){a:cW}(ax:fZ aa a)(b7:a.st=1):isNum a.val=true/\a.val.length<=10000:=by
 cases ax with
 | inf _ _ _ _ _=>cases b7
 | cB _ _ _ _ _=>cases b7
 | opt T a _=>
   have b:=a.1.1;have c:∀j,j<aa.a.length->bI e0 (T.v j):=λj a=>me (b.ud h (by omega));have e:il aa T=(List.range aa.a.length).map λj=>bk (T.v j):=rfl;have f:gy aa (il aa T)=some (aa.P T.v):=by
    unfold gy;rw[e,aL (td d c),Ge λj a=>o9 a (c j a)]
   have a:=acf h b;show isNum (tK aa (il aa T))=true/\(tK aa (il aa T)).length<=10000;unfold tK;rw[f];exact⟨a.isNum,a.len⟩
theorem Tc{aa:ar}(h:c5 aa)(b:aa.I=true){a:cW}(ax:fZ aa a)(b7:a.st=1):a.x.length=aa.a.length/\a.x.all isNum=true/\∀s∈a.x,s.length<=10000:=by
 obtain⟨a,_,_⟩:=ax.R0 h b b7;unfold dJ at a;grind
variable{p aX aH cI e9 fE c3:Nat}{cL dF jS:Value}{deep:Bool}{s:bV}{cs:List a1}
theorem gp.aa4{A:Nat->Prop}{v eN:Value}{l:List cz}(h:gp H A aH v l){k:Nat}(a:k<l.length)(d:List (List UInt8))(m:j8 H A eN d)(j:∀b,A b->b≠aH):
 ∃L ea,v=.slice (some ⟨aH,0,none⟩) l.length l.length/\H.get aH=some (.cells L (.n 5))/\L.length=l.length*5/\setCells L (k*5+4) [eN]=some ea/\gp (H.put aH (.cells ea (.n 5))) A aH v (l.set k {l.getD k fs with d:=d}):=by
 rcases h with⟨_,e⟩ | ⟨rfl,L,cD,f,dS,gf⟩
 ·grind
 ·have c:∀b y,A b->H.get b=some y->A b/\(H.put aH (.cells (L.set (k*5+4) eN) (.n 5))).get b=some y:=λb y g e=>⟨g,by rw[a6 (j b g)];exact e⟩;have n:l.getD k fs=l[k]:=by rw[e5,en a];rfl
  obtain⟨_,b,_⟩:=gf k a;refine⟨L,L.set (k*5+4) eN,rfl,cD,dS.1,setCells_one (dS.lt a (by decide)),.inr ⟨by simp,_,bO,λj=>if j=k then({l.getD k fs with d:=d}:cz).cells eN else f j,?_,λi g=>?_⟩⟩
  ·rw[tl];exact dS.set a (by decide) eN (by rw[b,n];simp[cz.cells]) λj _ h=>by simp[h]
  ·have d:i<l.length:=by simpa using g
   by_cases e:i=k
   ·subst e;simp only[List.getElem_set_self,if_true];exact⟨eN,rfl,m.imp c⟩
   ·simp only[List.getElem_set_ne (Ne.symm e),e,if_false];exact(gf i d).imp λeN q=>⟨q.1,q.2.imp c⟩
theorem fY.Wk(h:fY H p cL dF deep c3 s aX aH cI)(g:bl pm H){k:Nat}(b:k<s.tree.length)(d:List (List UInt8)){eN:Value}(i:j8 H (np p aX aH) eN d):
 ∃L ea f j,H.get p=some (.cells (cL::dF::.bool deep::.int .i64 (c3:Int)::f::.slice (some ⟨aH,0,none⟩) s.tree.length s.tree.length::j) (.t h1))/\H.get aH=some (.cells L (.n 5))/\L.length=s.tree.length*5/\setCells L (k*5+4) [eN]=some ea/\
  fY (H.put aH (.cells ea (.n 5))) p cL dF deep c3 (s.Z k d) aX aH cI/\eW pm p aX aH aX aH H (H.put aH (.cells ea (.n 5))):=by
 obtain⟨l,m,c,_,o,q,a,r,t,v,w⟩:=h;obtain⟨L,ea,rfl,f,j,x,z⟩:=t.aa4 b d i λb a=>a.2.2;have t:p≠aH:=λe=>by grind
 have i:∀b y,e7 p aX aH b->H.get b=some y->e7 p aX aH b/\(H.put aH (.cells ea (.n 5))).get b=some y:=λb y a e=>⟨a,by rw[a6 a.2.2];exact e⟩;have u:=aC.put (n:=0) (.refl g) (Nat.zero_le _) f (by simp) (.cells ea (.n 5));refine⟨L,ea,c,_,a,f,j,x,⟨l,⟨?_,_,bO⟩,c,_,o,q,by rw[a6 t];simpa [bV.Z]using a,r.imp i λ_ e=>?_,by simpa [bV.Z]using z,v.imp (λb y a e=>⟨a,(i b y a.f e).2⟩),w.up u⟩,⟨u.h,u.next,λb _ h=>a6 h.2.2,u.cf,.inl rfl,.inl rfl⟩⟩
 ·by_cases e:aX=aH
  ·simp_all
  ·rw[a6 e];exact m.1
 ·by_cases a:aX=aH
  ·grind
  ·rw[a6 a];exact e
abbrev vj:Nat:=T.acE
end Go.Dam.C
namespace Go.Dam.C
open Go Go.Dam
variable{X:aA}{pm cu:Perm}{H ab bX ai:ae}{n p aX aH cI e9 fE c3:Nat}{cL dF jS:Value}{deep:Bool}{s:bV}{cs:List a1}{l:ar}
theorem YE{k:Nat}(a:(⟨cs,l.rows⟩:ar).I=false):s.look l k cs=s:=by unfold bV.look;rw[a];rfl
theorem YF{k:Nat}{a:cW}(b:(⟨cs,l.rows⟩:ar).I=true)(aI:fZ ⟨cs,l.rows⟩ a)(h:a.st≠1):s.look l k cs=s.Z k a.d:=by unfold bV.look;rw[aL b,vg aI,aw h]
theorem YD{k:Nat}{a:cW}(b:(⟨cs,l.rows⟩:ar).I=true)(aI:fZ ⟨cs,l.rows⟩ a)(h:a.st=1)(c:nB s.val (rd a.val)=true):s.look l k cs=s.Z k a.d:=by unfold bV.look;rw[aL b,vg aI,aL h,aL c]
theorem YB{k:Nat}{a:cW}(b:(⟨cs,l.rows⟩:ar).I=true)(aI:fZ ⟨cs,l.rows⟩ a)(h:a.st=1)(c:nB s.val (rd a.val)=false)(d:kE l.a a.x=none):s.look l k cs={s.Z k a.d with val:=some (rd a.val),L:=⟨1,a.val,a.x,[],[]⟩}:=by
 unfold bV.look;rw[aL b,vg aI,aL h,aw (by rw[c];decide),d]
theorem YC{k i:Nat}{a:cW}(b:(⟨cs,l.rows⟩:ar).I=true)(aI:fZ ⟨cs,l.rows⟩ a)(h:a.st=1)(c:nB s.val (rd a.val)=false)(d:kE l.a a.x=some i):s.look l k cs=(s.Z k a.d).branch k cs i (bU a.x i):=by
 unfold bV.look;rw[aL b,vg aI,aL h,aw (by rw[c];decide),d]
theorem fY.R1{c d k l tN tL:Value}{b:cW}{aQ:Option Rat}(g:bl pm H)(m:p<=aX/\p<=aH)(i:(∃y,H.get aX=some y)/\∃y,H.get aH=some y)(a:H.get p=some (.cells [cL,dF,.bool deep,.int .i64 (c3:Int),c,d,.int .i64 s.L.st,ak s.L.val,k,.slice none 0 0,.slice none 0 0,l] (.t h1)))
 (o:ou H (e7 p aX aH) aX cI c s.todo) (q:gp H (np p aX aH) aH d s.tree) (r:j8 H (np p aX aH) tN b.x) (t:fv H tL aQ):
 fY (H.put p (.cells [cL,dF,.bool deep,.int .i64 (c3:Int),c,d,.int .i64 b.st,ak b.val,tN,.slice none 0 0,.slice none 0 0,tL] (.t h1))) p cL dF deep c3 {s with L:=b,val:=aQ} aX aH cI/\
  eW pm p aX aH aX aH H (H.put p (.cells [cL,dF,.bool deep,.int .i64 (c3:Int),c,d,.int .i64 b.st,ak b.val,tN,.slice none 0 0,.slice none 0 0,tL] (.t h1))):=by
 have u:=aC.put (n:=0) (.refl g) (Nat.zero_le _) a σ' (.cells [cL,dF,.bool deep,.I (c3:Int),c,d,.I b.st,ak b.val,tN,.Z,.Z,tL] (.t h1));obtain⟨A,f⟩:=ε (H.put p (.cells [cL,dF,.bool deep,.int .i64 (c3:Int),c,d,.int .i64 b.st,ak b.val,tN,.slice none 0 0,.slice none 0 0,tL] (.t h1)));rw[<-f]at u|-;have h:∀b y,e7 p aX aH b->H.get b=some y->e7 p aX aH b/\A.get b=some y:=λb y a e=>⟨a,by rw[f,a6 a.1];exact e⟩;have j:∀b,(∃y,H.get b=some y)->∃y,A.get b=some y:=λb ⟨y,v⟩=>by
  by_cases e:b=p
  ·simp_all
  ·exact⟨y,by rw[f,a6 e];exact v⟩
 refine⟨⟨m,⟨j _ i.1,j _ i.2⟩,c,d,tN,tL,by simp_all,o.imp h λc e=>?_,q.imp (λb y a e=>⟨a,(h b y a.f e).2⟩) λc e=>?_,r.imp (λb y a e=>⟨a,(h b y a.f e).2⟩),t.up u⟩,⟨u.h,u.next,λb _ h=>by rw[f,a6 h.1],u.cf,.inl rfl,.inl rfl⟩⟩
 ·rw[f,a6 (λ_=>π)];exact e
 ·rw[f,a6 (λ_=>π)];exact e
theorem Py{z:Int}(b7:-ff<=(z:Rat))(cH:(z:Rat)<=ff):bo (z:Rat)=true:=by
 have h:=jf (l:=bk (z:Rat)) (a8 (Pw (ze b7 cH)) (by decide));rwa [Hd (ze b7 cH)]at h
theorem Wz{v:Rat}(b7:-ff<=v)(cH:v<=ff):-ff<=((v.floor:Int):Rat)/\((v.floor:Int):Rat)<=ff:=by
 refine⟨?_,Rat.le_trans (Rat.floor_le v) cH⟩;rw[vs]at b7|-;exact Rat.intCast_le_intCast.2 (Rat.le_floor_iff.2 b7)
theorem VD{v:Rat}(b7:-ff<=v)(cH:v<=ff)(b:v.den≠1):-ff<=((v.floor+1:Int):Rat)/\((v.floor+1:Int):Rat)<=ff:=by
 constructor
 ·rw[vs]at b7|-;have:=Rat.le_floor_iff.2 b7;exact Rat.intCast_le_intCast.2 (by omega)
 ·rw[x0]at cH|-;have a:((v.floor:Int):Rat)<((10^20:Int):Rat):=(by have:=Cc b;grind);have a:=Rat.intCast_lt_intCast.1 a;exact Rat.intCast_le_intCast.2 (by omega)
theorem YG(E:nw X)(g:bl pm H)(aJ:pm.ah<=p)(hm:jq l)(h:fY H p cL dF deep c3 s aX aH cI)(g0:bl pm ai)(bq:ai.next<=p)(qC:aC pm p ai H)(hl:gD ai 0 (.agg #[cL,dF]) l){k:Nat}(hk:k<s.tree.length)(O:kC l cs)(aj:hh H (e7 p aX aH) jS cs.length 5 (gA cs))(bp:∀i,i<l.rows.length->(l.row i).G.length<=1000)(hn:s.tree.length<=800)(ht:s.todo.length<=800)(hv:∀w,s.val=some w->bo w=true):
 Call X pm F.so [.pointer (some ⟨p,0,none⟩),.agg #[.int .i64 (k:Int),jS]] H λ_ ab=>∃e9 fE bq,fY ab p cL dF deep c3 (s.look l k cs) e9 fE bq/\eW pm p aX aH e9 fE H ab:=by
 refine Call.W E.so rfl λbr P=>?_;obtain⟨I,J,e⟩:=aj.form;subst e;obtain⟨_,_,e,aK,aL⟩:=id hl;cases e;obtain⟨Q,R,e,_⟩:=id aL;subst e;obtain⟨L,ad,e,_⟩:=id aK;subst e;have sh:=O.fM hm.s;have xt:∀{ab:ae} {e9 fE:Nat},eW pm p aX aH e9 fE H ab->Ext ai ab:=λk b y e=>by
  have a:=g0.lt e;have a:=h.ge;have a:=h.lt g;exact(k.get b (by omega) ⟨by omega,by omega,by omega⟩).trans ((qC.get b (by omega)).trans e)
 obtain⟨t,an⟩:∃b,b=H.next:=⟨_,rfl⟩;obtain⟨m,af⟩:∃A,A=H.new (.cells [.int .i64 (k:Int),.slice I cs.length J] (.t ma)):=⟨_,rfl⟩;have S:K pm H m:=by rw[af];exact K.new g _
 have G:=S.h;have n1:m.next=t+1:=by rw[af,an];rfl
 have aM:m.get t=some (.cells [.int .i64 (k:Int),.slice I cs.length J] (.t ma)):=by rw[af,an];exact cc
 have ao:=h.k g S;obtain⟨_,_,_⟩:=h.lt g;obtain⟨_,_,_,_,_,_,bs,_⟩:=id ao;obtain⟨z,hz⟩:∃z,z=m.next:=⟨_,rfl⟩;have kU:K pm m (m.up 17):=(K.refl G).up 17;have ar:=λj=>(by rw[hz];exact G.none j:(m.up 17).get (z+j)=none);have bt:=(by rw[hz];exact G.O:(m.up 17).get z=none);obtain⟨M,T⟩:∃A,A=(m.up 17).put (z+8) (.cells [.int .i64 0,.string ⟨#[]⟩,.slice none 0 0,.slice none 0 0,.slice none 0 0] (.t vj)):=⟨_,rfl⟩;have au:K pm m M:=by rw[T];exact aC.fill kU (by omega) (ar 8) (by simp_all) _
 have aN:=au.h;have ag:∀j,j≠8->M.get (z+j)=none:=λj hj=>by rw[T,a6 (by omega)];exact ar j
 have bu:M.get (z+8)=some (.cells [.int .i64 0,.string ⟨#[]⟩,.slice none 0 0,.slice none 0 0,.slice none 0 0] (.t vj)):=by rw[T];exact bO
 have bq:M.next=z+17:=by rw[T,hz];rfl
 have bw:gD M 0 (.agg #[.slice I cs.length J,.slice Q l.rows.length R]) ⟨cs,l.rows⟩:=(show gD H 0 _ ⟨cs,l.rows⟩ from⟨_,_,rfl,aj.e,aL.ext λb y e=>(qC.get b (by have:=g0.lt e;omega)).trans e⟩).ext ((S.trans au).ext g);have d1:c6 [z+8] [t]=true:=gd (by omega);have d2:c6 [z+8] [p]=true:=gd (by omega);have aO:=λU=>ej (ah:=pm.ah) (ok:=pm.ok) (o:=U) (b:=z+8) (by grind);simp[g.pick,g.make,ptr,<-an,<-af,-Es];refine cx.of G.ah rfl ?_;rw[<-hz];simp[b8,ar,bt,aM,bs,fill,bA,Perm.make,Perm.pick,ptr,<-T,-Es];refine cY aN (aq:=[.agg #[.slice I cs.length J,.slice Q l.rows.length R]]) (by simp[ag]) rfl (λcu g'=>V0 E.toEF g' bw sh bp) ?_;rintro _ V T h2;have g2:=T.h;have af:=T.next;have aP:=K.trans au T;have z2:=T.some aN bu;have aS:∀j,j<17->j≠8->V.get (z+j)=none:=λj hj af=>(T.get _ (by omega)).trans (ag j af)
 rcases h2 with⟨rp,rfl⟩ | ⟨rp,adF,a,u,rfl,_,_,hu,ax⟩
 ·obtain⟨c,a⟩:∃A,A=V.put (z+8) (.cells [.int .i64 0,.string ⟨#[]⟩,.slice none 0 0,.slice none 0 0,.slice none 0 0] (.t vj)):=⟨_,rfl⟩;have b:K pm m c:=by rw[a];exact aC.put aP (by omega) z2 (by simp) _
  simp[aS,z2,setCells, aO,<-a,b3,bZ, cU,dj,d1,d2,show t<z by omega,show p<z by omega,-L8];refine⟨by rw[a,a6 (by omega)];grind,?_⟩;refine P _ _ _ ?_;simp;rw[YE rp];exact⟨aX,aH,⟨cI,ao.k G b⟩,.p7 (S.trans b)⟩
 ·obtain⟨_,_,_,rfl,aT,aU,T⟩:=id hu;obtain⟨x,B,e1,_⟩:=aT.1.ex;obtain⟨W,Y,e2,_⟩:=aU.1.ex;obtain⟨ab,ae,e3,_⟩:=T.1.ex;subst e1 e2 e3;obtain⟨q,F⟩:∃A,A=V.put (z+8) (.cells [.int .i64 a.st,ak a.val,.slice x a.x.length B,.slice W a.d.length Y,.slice ab a.r.length ae] (.t vj)):=⟨_,rfl⟩;have T:K pm m q:=by rw[F];exact aC.put aP (by omega) z2 (by simp) _
  have u:=T.h;have bx:=S.trans T;have m:q.next=V.next:=by rw[F];rfl
  have aV:q.get (z+8)=some (.cells [.int .i64 a.st,ak a.val,.slice x a.x.length B,.slice W a.d.length Y,.slice ab a.r.length ae] (.t vj)):=by rw[F];exact bO
  have aW:q.get t=some (.cells [.int .i64 (k:Int),.slice I cs.length J] (.t ma)):=T.some G aM;have m:=ao.k G T;have G:=m.lt u;have G:∀b,z<=b->e7 p aX aH b:=λb d=>⟨by omega,by omega,by omega⟩;have S:∀{T:Value} {N:List (List UInt8)},h7 V M.next T N->j8 q (np p aX aH) T N:=λM=>by
   have f:=M.put (c:=z+8) (by omega) (.cells [.int .i64 a.st,ak a.val,.slice x a.x.length B,.slice W a.d.length Y,.slice ab a.r.length ae] (.t vj));rw[<-F]at f;exact f.p.imp λb y d e=>⟨⟨by omega,(G b (by omega)).2⟩,e⟩
  have px:=S aT;have M:=S aU;have bz:e7 p aX aH t:=⟨by omega,by omega,by omega⟩;have bC:=G (z+8) (by omega);have kV:K pm q (q.up 11):=(K.refl u).up 11;have G:=kV.h;obtain⟨aY,S,_,_,bD,aZ,_,bE,av,aw⟩:=(m.k u kV).Wk G hk a.d (eN:=.slice W a.d.length Y) (M.imp λb y d e=>⟨d,kV.some u e⟩);obtain⟨H4,a1⟩:∃A,A=(q.up 11).put aH (.cells S (.n 5)):=⟨_,rfl⟩;rw[<-a1]at av aw;have Z:=aw.h;have aa:=(eW.p7 (p:=p) (aX:=aX) (aH:=aH) kV).trans aw;have m:=aa.next;have ay:=aa.some u bC aV;have bF:=aa.some u bz aW;have a7:eW pm p aX aH aX aH H H4:=(eW.p7 bx).trans aa;simp[aS,z2,setCells, aO,<-F,b3,bZ, cU,dj,d1,d2,show t<z by omega,show p<z by omega,-Er];refine⟨by rw[F,a6 (by omega)];grind,?_⟩;refine cx.of u.ah rfl ?_;obtain⟨y,hy⟩:∃y,y=q.next:=⟨_,rfl⟩;have F:=λj=>(by rw[hy];exact u.none j:(q.up 11).get (y+j)=none);have G:=(by rw[hy];exact u.O:(q.up 11).get y=none);have m:=bD;simp only[r4]at m aZ;have q:=λU=>ej (ah:=pm.ah) (ok:=pm.ok) (o:=U) (b:=aH) (by grind);rw[<-hy];simp[b8,F,G,m,aW,aV,hk,aZ,bE,q,<-a1,b3,bZ, show t<y by omega,show p<y by omega,show z+8<y by omega,show aH<y by omega,-Er];simp[ay,-Et];by_cases D:a.st=1
  ·obtain⟨m,q⟩:=DO sh rp ax D;obtain⟨xl,xn,N⟩:=Tc sh rp ax D;have bG:bo (rd a.val)=true:=jf q;simp[D,ay,-Mc,-Ma];refine al.of (aq:=[ak a.val]) (Mj E Z (by omega) m) ?_;rintro a8 H5 ⟨m,az⟩;have n:=m.h;have aA:=av.k Z m;have aB:=a7.trans (eW.p7 (p:=p) (aX:=aX) (aH:=aH) m);have a_:=m.some Z ay;have bH:=m.some Z bF;have ba:j8 H5 (np p aX aH) (.slice x a.x.length B) a.x:=px.imp λb y d e=>⟨d,m.some Z (aa.some u d.f e)⟩;obtain⟨_,_,aC,aD,aE,bb,ai,bI,bJ,bK,bc⟩:=id aA;have bd:nB s.val (rd a.val)=false->∀m,aF 0 m=some (.pointer (some ⟨p,0,none⟩))->aF 3 m=some (.pointer (some ⟨t,0,none⟩))->aF 5 m=some (.pointer (some ⟨z+8,0,none⟩))->aF 7 m=some a8->wp X pm (.code C.sq) m H5 [] br:=λbf m l0 bL l5 l7=>by
    have m:hO H5 (.slice L l.a.length ad) l.a:=(aK.imp (xt aB) λ_ _ _ h=>h).aZ;simp[l0,l5,a_,-Mb,-L9];refine al.of (aq:=[.pointer (some ⟨p,0,none⟩),.slice x a.x.length B]) (Vs E n ai m ba.1 (by rw[xl];exact O.len) xn N (by have:=hm.s.n;omega)) ?_;rintro _ r ⟨f,rfl⟩;have c:=f.h;have aF:=aA.k n f;have aG:=aB.trans (eW.p7 (p:=p) (aX:=aX) (aH:=aH) f);have X:=f.some n a_;have aR:=f.some n bH;have bg:j8 r (np p aX aH) (.slice x a.x.length B) a.x:=ba.imp λb y d e=>⟨d,f.some n e⟩;have m:=aF.lt c;have bh:=f.some n ai;have m:=aG.next;obtain⟨v,C⟩:∃y,y=r.next:=⟨_,rfl⟩;obtain⟨H,rfl,_⟩:=id az;have bM:=az.up f;have bN:=λU=>ej (ah:=pm.ah) (ok:=pm.ok) (o:=U) (b:=p) aJ;have m:=c.lt X;have m:=c.lt aR
    cases aI:kE l.a a.x with
    | none=>
      have g:K pm r (r.up 14):=(K.refl c).up 14;have al:=λj=>(by rw[C];exact c.none j:(r.up 14).get (v+j)=none);have bk:=(by rw[C];exact c.O:(r.up 14).get v=none);obtain⟨o,h⟩:∃A,A=(r.up 14).put p (.cells [.slice L l.a.length ad,.slice Q l.rows.length R,.bool deep,.int .i64 (c3:Int),aC,aD,.int .i64 (s.Z k a.d).L.st,ak (s.Z k a.d).L.val,aE,.slice none 0 0,.slice none 0 0,.pointer (some ⟨H,0,none⟩)] (.t h1)):=⟨_,rfl⟩;obtain⟨q,m,_⟩:=id aF;have i:=fY.R1 (s:=s.Z k a.d) (b:=(s.Z k a.d).L) (tL:=.pointer (some ⟨H,0,none⟩)) (aQ:=some (rd a.val)) (tN:=aE) g.h q ⟨m.1,m.2⟩ (g.some c bh) ((bI.imp (λb y d e=>⟨d,(f.trans g).some n e⟩) λaY e=>(f.trans g).some n e)) ((bJ.imp (λb y d e=>⟨d,(f.trans g).some n e⟩) λaY e=>(f.trans g).some n e)) (bK.imp λb y d e=>⟨d,(f.trans g).some n e⟩) (bM.up g);rw[<-h]at i;have g7:=i.2.h;obtain⟨bl,bm,_,_,_,_,aq,bn,bo,_,bB⟩:=id i.1;have w:o.get p=some (.cells [.slice L l.a.length ad,.slice Q l.rows.length R,.bool deep,.int .i64 (c3:Int),aC,aD,.int .i64 (s.Z k a.d).L.st,ak (s.Z k a.d).L.val,aE,.slice none 0 0,.slice none 0 0,.pointer (some ⟨H,0,none⟩)] (.t h1)):=by rw[h];exact bO
      rw[w]at aq;cases aq;obtain⟨_,bj⟩:∃A,A=o.put p (.cells [.slice L l.a.length ad,.slice Q l.rows.length R,.bool deep,.int .i64 (c3:Int),aC,aD,.int .i64 1,ak a.val,.slice x a.x.length B,.slice none 0 0,.slice none 0 0,.pointer (some ⟨H,0,none⟩)] (.t h1)):=⟨_,rfl⟩;have ah:=fY.R1 (b:=⟨1,a.val,a.x,[],[]⟩) (tL:=.pointer (some ⟨H,0,none⟩)) (aQ:=some (rd a.val)) (tN:=.slice x a.x.length B) g7 bl bm w bn bo (bg.imp λb y d e=>⟨d,i.2.some g.h d.f (g.some c e)⟩) bB;rw[<-bj]at ah;have dp:c6 [p] [z+8]=true:=gd (by omega);simp[Fj,  ];refine cx.of c.ah rfl ?_;rw[<-C];have ag:∀j,o.get (v+j)=none:=λj=>by rw[h,a6 (by omega)];exact al j
      have d:o.get (z+8)=some (.cells [.int .i64 a.st,ak a.val,.slice x a.x.length B,.slice W a.d.length Y,.slice ab a.r.length ae] (.t vj)):=by rw[h,a6 (by omega)];exact X
      simp[b8,al,bk,l0,l5,l7,X,fill,bA,bh,bN,setCells,<-h,ag,w, <-bj,b3,bZ,cU,dp,show z+8<v by omega,show p<v by omega];refine P _ _ _ ?_;simp;rw[YB rp ax D bf aI];exact⟨aX,aH,⟨cI,ah.1⟩,(aG.trans (eW.p7 g)).trans (i.2.trans ah.2)⟩
    | some i=>
      obtain⟨d,e,bO⟩:=Fk aI;have l:i<cs.length:=by rw[O.len];exact d
      obtain⟨ah,al⟩:=JA hm.s O rp ax D l e;obtain⟨_,_,ex,bP⟩:=bg.1.ex;cases ex;obtain⟨bQ,_,_,_,w,bR,f2,f3,f4,b,f5,rfl⟩:=bP i (by rw[xl];exact l);subst bR;have aQ:bU a.x i=rd b:=by simp[bU,List.getD,f5]
      have o:=cX f5;have a6:K pm r (r.up 10):=(K.refl c).up 10;have bS:=a6.h;have bj:=λj=>(by rw[C];exact c.none j:(r.up 10).get (v+j)=none);have bT:=(by rw[C];exact c.O:(r.up 10).get v=none);have bW:i<a.x.length:=by rw[xl];exact l
      simp[Fj,  ];refine cx.of c.ah rfl ?_;rw[<-C];simp[b8,bj,bT,l0,bL,l5,aR,X,bB,bA,bW,f2,f3,f4];refine cY bS (aq:=[ak b]) (by simp[bj]) rfl (λcu g'=>Mj E g' (by have:=N b o;omega) (eA.1 xn b o)) ?_;rintro bX _ d bk;have s:=d.h;have e:=K.trans a6 d;have bl:=d.res c;rw[<-C]at bl;have bY:=aF.k c e;have bm:=aG.trans (eW.p7 (p:=p) (aX:=aX) (aH:=aH) e);have b0:=bm.S7 g aj λ_ _ _ h=>h;rw[<-aQ]at bk;have sv:bo (bU a.x i)=true:=by rw[aQ];exact jf (N b o)
      obtain⟨b1,b2⟩:=Wz ah al;obtain⟨b,d⟩:=VD ah al bO;have bn:=Py b d;rw[Rat.intCast_add]at bn;simp;have b4:=Vp (pm:=⟨pm.ah,pm.ok,none⟩) E (s.perm rfl s.ah) aJ bY (k:=k) b0 (by simpa [bV.Z]using hk) l (by have:=hm.s.n;have:=O.len;omega) bk sv (Py b1 b2) bn (by simp[bV.Z];omega) (by simp[bV.Z];omega);refine d'.fixed (aq:=[.pointer (some ⟨p,0,none⟩),.agg #[.int .i64 (k:Int),.slice I cs.length J],.int .i64 (i:Int),bX]) (by simp[bl]) (by simp) (by simp[]) rfl b4 ?_;rintro _ _ ⟨d,e,f,j,b⟩;have b:=b.perm (cu:=pm) g.num (by have:=b.next;have:=s.ah;omega);simp[b3,bZ,fT,cU,dj,show z+8<v by omega,show t<v by omega,show bQ<v by have:=c.lt f2;omega];refine P _ _ _ ?_;simp;rw[YC rp ax D bf aI];exact⟨d,e,⟨f,j⟩,bm.trans b⟩
   simp[ai,-AQ,-L',-sq]
   cases b:s.val with
   | none=>
     have a:bb=.pointer none:=by simpa [bV.Z,b,fv]using bc
     subst a;simp[aR,-AQ,-sq];refine al.not ?_;simp[aR,-sq];exact bd (by rw[b];rfl) _ (by simp) (by simp) (by simp) (by simp)
   | some w=>
     have c:b4 H5 bb w:=by simpa [bV.Z,b,fv]using bc
     obtain⟨L,rfl,_⟩:=id c;simp[ai,-AQ,-sq];refine al.of (aq:=[a8,.pointer (some ⟨L,0,none⟩)]) (k7 E.toEL n az.of c.of bG (hv w b)) ?_;rintro _ _ ⟨rfl,rfl⟩;by_cases c:w<=rd a.val
     ·simp[kb,show ¬rd a.val<w from fy.2 c,-sq];refine P _ _ _ ?_;simp;rw[YD rp ax D (by rw[b];simp[nB,c])];exact⟨aX,aH,⟨cI,aA⟩,aB⟩
     ·simp[kb,show rd a.val<w from Rat.not_le.1 c,-sq];exact bd (by rw[b];simp[nB,c]) _ (by simp) (by simp) (by simp) (by simp)
  ·simp[D,-Et];refine P _ _ _ ?_;simp;rw[YF rp ax D];exact⟨aX,aH,⟨cI,av⟩,a7⟩
end Go.Dam.C
namespace Go.Dam.C
open Go Go.Dam
section
variable{α:Type}{f:α->Option α}
theorem PA{a:α}(h:Ends f a):∃k b,fH f k a=some b/\f b=none:=by
 let⟨k,c,d⟩:=h.least
 cases k with
 | zero=>cases c
 | succ j=>
   have c:=d j ω
   cases e:fH f j a with
   | none=>grind
   | some b=>
     refine⟨j,b,e,?_⟩
     cases a:f b with
     | none=>rfl
     | some _=>
       have:=Cm e a;grind
theorem He{G:α->Prop}(c:∀a b,G a->f a=some b->G b):∀{k:Nat} {a b:α},G a->fH f k a=some b->G b
 | 0,a,b,h,e=>by cases e;exact h
 | k+1,a,b,h,e=>by
   rw[fH]at e
   cases b:f a with
   | none=>grind
   | some d=>rw[b]at e;exact He c (c a d h b) e
end
theorem abo{aa:ar}(h:c5 aa)(j:aa.I=true):∃a,fZ aa a:=by
 have R:=Jo h j;let⟨_,b,j,c⟩:=PA (R.g1 _ R.s1).2.2;have i:x3 aa b:=He R.cw R.s1 j;unfold jx at c
 cases d:lH aa.j b with
 | some a=>
   rw[d]at c;simp at c
   cases e:lU aa.j b a (off aa.j b.v (b.rows a)) with
   | some _=>grind
   | none=>exact⟨_,.inf b a i d e⟩
 | none=>
   have c:=R.s2 b i d;let⟨_,a,b,e⟩:=PA (R.g2 _ c).2.2;have h:tR aa a:=He R.gg c b;unfold h' at e
   cases f:enters aa.j aa.cs a with
   | none=>exact⟨_,.opt a h f⟩
   | some g=>
     rw[f]at e;simp at e
     cases k:(dW aa.j a g (eF aa.j aa.cs a g) aa.j.m).e4 with
     | some _=>grind
     | none=>exact⟨_,.cB a g h f k⟩
theorem pg{aa:ar}(h:c5 aa)(b:aa.I=true):fZ aa (eo aa):=by
 let⟨_,a⟩:=abo h b;rw[vg a];exact a
structure sI(l:ar)(s:bV):Prop extends lO l s where
 v:∀w,s.val=some w->bo w=true
 t:s.todo.length<=s.tree.length
theorem sI.look{l:ar}{s:bV}(e:jq l)(h:sI l s){k:Nat}{cs:List a1}(b:kC l cs):sI l (s.look l k cs)/\((s.look l k cs).tree.length=s.tree.length/\(s.look l k cs).todo.length=s.todo.length∨(s.look l k cs).tree.length=s.tree.length+2/\(s.look l k cs).todo.length=s.todo.length+2):=by
 have a:∀f,sI l (s.Z k f):=λf=>⟨h.tolO.Z,h.v,by simpa [bV.Z]using h.t⟩;unfold bV.look;by_cases c:(⟨cs,l.rows⟩:ar).I=true
 ·rw[aL c];have g:=b.fM e.s;have i:=pg g c;by_cases d:(eo ⟨cs,l.rows⟩).st=1
  ·rw[aL d];split
   ·exact⟨a _,.inl ⟨by simp[bV.Z],rfl⟩⟩
   ·split
    ·exact⟨⟨⟨(a _).h0⟩,λ_ h=>by cases h;exact jf (DO g c i d).2,(a _).t⟩,.inl ⟨by simp[bV.Z],rfl⟩⟩
    ·rename_i m n;let⟨l,j,o⟩:=Fk n;have k:m<cs.length:=by rw[b.len];exact l
     let⟨p,q⟩:=JA e.s b c i d k j;refine⟨⟨(a _).tolO.branch b k j p q o,h.v,?_⟩,.inr ⟨by simp[bV.branch,bV.U,bV.Z],by simp[bV.branch,bV.U,bV.Z]⟩⟩;have:=h.t;simp[bV.branch,bV.U,bV.Z];omega
  ·rw[aw d];exact⟨a _,.inl ⟨by simp[bV.Z],rfl⟩⟩
 grind
theorem sI.del{l:ar}{s:bV}(h:sI l s){k:Nat}(a:k<s.todo.length):sI l (s.del k):=⟨h.tolO.del,h.v,by
 have:=h.t;have e:(s.todo.eraseIdx k).length=s.todo.length-1:=by rw[List.length_eraseIdx,aL a]
 show(s.todo.eraseIdx k).length<=s.tree.length;omega⟩
end Go.Dam.C
namespace Go.Dam.C
open Go Go.Dam
variable{X:aA}{pm cu:Perm}{H ab bX ai:ae}{n p aX aH cI e9 fE c3:Nat}{cL dF jS:Value}{deep:Bool}{s ve:bV}{cs:List a1}{l:ar}
theorem ou.form{A:Nat->Prop}{v:Value}{l:List (Nat×List a1)}(h:ou H A aX cI v l):∃a cap,v=.slice a l.length cap:=by
 rcases h with⟨rfl,rfl,_⟩ | ⟨rfl,_⟩
 ·exact⟨_,_,rfl⟩
 ·exact⟨_,_,rfl⟩
theorem gp.form{A:Nat->Prop}{v:Value}{l:List cz}(h:gp H A aH v l):∃a,v=.slice a l.length l.length:=by
 rcases h with⟨rfl,rfl⟩ | ⟨rfl,_⟩
 ·exact⟨_,rfl⟩
 ·exact⟨_,rfl⟩
theorem aaX(o:nw X)(g:bl pm H)(v:pm.ah<=p)(w:jq l)(h:fY H p cL dF deep c3 ve aX aH cI)(C:bl pm ai)(L:ai.next<=p)(qC:aC pm p ai H)(D:gD ai 0 (.agg #[cL,dF]) l)(M:∀i,i<l.rows.length->(l.row i).G.length<=1000)(O:c3<=300)(y:ve.todo=[])(cA:ve.tree=[])(N:ve.val=none):
 Call X pm F.ss [.pointer (some ⟨p,0,none⟩)] H λr ab=>∃c b e9 fE O,hz l deep c3 (ve.U l.a) c b/\r=.bool b/\fY ab p cL dF deep c3 c e9 fE O/\aC pm p H ab:=by
 refine Call.W o.ss rfl λ_ E=>?_;have P:=h.lt g;have G:=h.ge;obtain⟨_,_,q,Q,_⟩:=id D;cases q;have O:hh H (e7 p aX aH) cL l.a.length 5 (gA l.a):=Q.p.imp (λb _ _ q=>by
  have:=C.lt q;exact⟨⟨by omega,by omega,by omega⟩,(qC.get b (by omega)).trans q⟩) λ_ _ _ h=>h
 obtain⟨_,_,_,_,_,_,q,_⟩:=id h;simp[q,-Mg];refine al.of (aq:=[.pointer (some ⟨p,0,none⟩),cL]) (E2 o g v h O (by rw[cA];simp) (by rw[y];simp)) ?_;rintro _ _ ⟨R,S,T,rfl,O,q⟩;have Q:=q.h;have Q:=q.up G.1 G.2 P.1;simp[-Me,-Mf]
 refine fh.of (σ:=bV×Nat×Nat×Nat) (λ_=>[(0,.pointer (some ⟨p,0,none⟩))]) (λq ab=>sI l q.1/\fY ab p cL dF deep c3 q.1 q.2.1 q.2.2.1 q.2.2.2/\aC pm p H ab/\q.1.tree.length<=c3+2/\∀c b,hz l deep c3 q.1 c b->hz l deep c3 (ve.U l.a) c b) (λq=>2*(c3+3-q.1.tree.length)+q.1.todo.length) (ve.U l.a,R,S,T) (by simp)
  ⟨⟨(lO.mk (by rw[y];simp)).U w.node,by simp[bV.U,N],by simp[bV.U,y,cA]⟩,O,Q,by simp[bV.U,cA],λ_ _ h=>h⟩ ?_
 rintro⟨s,z,A,B⟩ t ⟨f,d,i,q,e⟩;simp only at f d q e;have a:=i.h;obtain⟨I,_,_,_,_,_,j,U,V,_⟩:=id d;obtain⟨_,_,rfl⟩:=U.form;obtain⟨_,rfl⟩:=V.form;have u:=d.lt a;have q:=i.next;by_cases n:s.todo=[]
 ·simp[j,n];refine cx.of a.ah rfl ?_;simp[b8,a.none,a.O,j,b3,bZ, u.1];refine E _ _ _ ?_;simp;have b:=hz.done (l:=l) (deep:=deep) (m:=c3) s n;by_cases g:s.tree.length<=c3
  ·rw[hd g]at b;exact⟨s,.inr ⟨e _ _ b,g,⟨z,A,B,d.k a ((K.refl a).up 11)⟩,i.k ((K.refl a).up 11) (by omega)⟩⟩
  ·rw[j1 g]at b;exact⟨s,.inl ⟨e _ _ b,by omega,⟨z,A,B,d.k a ((K.refl a).up 11)⟩,i.k ((K.refl a).up 11) (by omega)⟩⟩
 ·have b:0<s.todo.length:=rT.2 n;simp[j,b,-Eu];refine cx.of a.ah rfl ?_;have b:K pm t (t.up 10):=(K.refl a).up 10;have y:=b.h;have q:=d.k a b;have F:aC pm p H (t.up 10):=i.k b (by omega);by_cases b:c3<s.tree.length
  ·simp[b8,a.none,a.O,j,b3,bZ, u.1,b,-Eu];refine E _ _ _ ?_;simp;exact⟨s,e _ _ (.jj s n b),⟨z,A,B,q⟩,F⟩
  ·simp[b8,a.none,a.O,j,b3,bZ, u.1,b,-Mh];refine al.of (aq:=[.pointer (some ⟨p,0,none⟩)]) (Y3 o y v q n (by have:=f.t;omega)) ?_;rintro _ _ ⟨x,jS,g,rfl,K,m,a⟩;have H:=a.h;have r:=F.trans (a.up I.1 I.2 (by have:=u.1;show p<t.next+10;omega));have J:lr deep s.todo.length<s.todo.length:=by unfold lr;split<;>omega
   obtain⟨d,a⟩:=f.h0 x (cX g);have b:=f.del J;have i:(s.del (lr deep s.todo.length)).todo.length=s.todo.length-1:=by
    show(s.todo.eraseIdx _).length=_;rw[List.length_eraseIdx,aL J]
   have i:=r.next;simp;refine al.of (aq:=[.pointer (some ⟨p,0,none⟩),.agg #[.int .i64 (x.1:Int),jS]]) (YG o H v w m C L (qC.trans r) D (k:=x.1) d a K M (by show s.tree.length<=800;omega) (by have:=f.t;omega) b.v) ?_;rintro _ _ ⟨f,i,j,n,o⟩;have d:=m.ge;have q:=m.lt H;have m:=r.trans (o.up d.1 d.2 q.1);obtain⟨d,_⟩:=b.look w (k:=x.1) a;have a:(s.del (lr deep s.todo.length)).tree.length=s.tree.length:=rfl;simp;refine kt.of ((s.del (lr deep s.todo.length)).look l x.1 x.2,f,i,j) ?_ (by simp) ⟨d,n,m,?_,λc=>⟨λh=>e c false (.step s c false x g (by omega) h),λh=>e c true (.step s c true x g (by omega) h)⟩⟩
   ·show 2*(c3+3-((s.del (lr deep s.todo.length)).look l x.1 x.2).tree.length)+((s.del (lr deep s.todo.length)).look l x.1 x.2).todo.length<2*(c3+3-s.tree.length)+s.todo.length;omega
   ·show((s.del (lr deep s.todo.length)).look l x.1 x.2).tree.length<=c3+2;omega
end Go.Dam.C
namespace Go.Dam.C
open Go Go.Dam
variable{X:aA}{pm cu:Perm}{H ab bX ai:ae}{n:Nat}{deep:Bool}{l:ar}
def py:bV:=⟨[],[],⟨2,[],[],[],[]⟩,none⟩
def lo(k:Int):Nat:=if 0<k then min 300 k.toNat else 300
theorem QD{k:Int}:lo k<=300:=by unfold lo;split<;>omega
theorem gp.ext{A:Nat->Prop}{aH:Nat}{v:Value}{l:List cz}(h:gp H A aH v l)(e:Ext H ab):gp ab A aH v l:=h.imp (λb y a q=>⟨a,e b y q⟩) λ_ q=>e _ _ q
theorem gp.put{aW aH c:Nat}{v:Value}{l:List cz}(h:gp H (λb=>aW<=b) aH v l)(a:c<aW)(a:aW<=aH)(x:bz):gp (H.put c x) (λb=>aW<=b) aH v l:=
 h.imp (λb _ a q=>⟨a,by rw[a6 (by omega)];exact q⟩) λ_ q=>by rw[a6 (by omega)];exact q
theorem gp.mono{aW cw aH:Nat}{v:Value}{l:List cz}(h:gp H (λb=>aW<=b) aH v l)(a:cw<=aW):gp H (λb=>cw<=b) aH v l:=h.imp (λb _ _ q=>⟨by omega,q⟩) λ_ q=>q
theorem aci(Q:nw X)(g:bl pm H)(hm:jq l){v:Value}(R:gD H 0 v l)(af:∀i,i<l.rows.length->(l.row i).G.length<=1000){k:Int}(av:-9223372036854775808<=k)(hk:k<=9223372036854775807):
 Call X pm F.su [v,.bool deep,.int .i64 k] H λr ab=>K pm H ab/\∃a b A B aH,hz l deep (lo k) (py.U l.a) a b/\r=.tuple #[.agg #[.int .i64 a.L.st,ak a.L.val,A,.slice none 0 0,.slice none 0 0],B,.bool b]/\h7 ab H.next A a.L.x/\gp ab (λb=>H.next<=b) aH B a.tree/\H.next<=aH:=by
 refine Call.W Q.su rfl λag hQ=>?_;obtain⟨_,_,rfl,hc,C⟩:=id R;obtain⟨j,i,e1,_⟩:=id hc;obtain⟨m,n,e2,_⟩:=id C;subst e1 e2;obtain⟨G,D⟩:∃b,b=H.next:=⟨_,rfl⟩;obtain⟨f,u⟩:∃f,f=H.new (.cells [.slice j l.a.length i,.slice m l.rows.length n] (.t T.TK)):=⟨_,rfl⟩;have S:K pm H f:=by rw[u];exact K.new g _
 have U:=S.h;have ai:f.get G=some (.cells [.slice j l.a.length i,.slice m l.rows.length n] (.t T.TK)):=by rw[u,D];exact cc
 have n1:f.next=G+1:=by rw[u,D];rfl
 obtain⟨c,E⟩:∃b,b=f.next:=⟨_,rfl⟩;obtain⟨d,w⟩:∃d,d=f.new (.cells [.int .i64 0,.string ⟨#[]⟩,.slice none 0 0,.slice none 0 0,.slice none 0 0] (.t T.AS)):=⟨_,rfl⟩;have G:K pm f d:=by rw[w];exact K.new U _
 have V:=G.h;have aj:d.get c=some (.cells [.int .i64 0,.string ⟨#[]⟩,.slice none 0 0,.slice none 0 0,.slice none 0 0] (.t T.AS)):=by rw[w,E];exact cc
 have an:=G.some U ai;have W:=S.trans G;have f:d.next=c+1:=by rw[w,E];rfl
 obtain⟨p,x⟩:∃b,b=d.next:=⟨_,rfl⟩;obtain⟨q,z⟩:∃q,q=d.new (.cells [.slice j l.a.length i,.slice m l.rows.length n,.bool deep,.int .i64 300,.slice none 0 0,.slice none 0 0,.int .i64 2,.string ⟨#[]⟩,.slice none 0 0,.slice none 0 0,.slice none 0 0,.pointer none] (.t h1)):=⟨_,rfl⟩;have I:K pm d q:=by rw[z];exact K.new V _
 have Y:=I.h;have J:q.get p=some (.cells [.slice j l.a.length i,.slice m l.rows.length n,.bool deep,.int .i64 300,.slice none 0 0,.slice none 0 0,.int .i64 2,.string ⟨#[]⟩,.slice none 0 0,.slice none 0 0,.slice none 0 0,.pointer none] (.t h1)):=by rw[z,x];exact cc
 have ao:=K.trans W I;have f:q.next=p+1:=by rw[z,x];rfl
 have ar:pm.may p=true:=g.may (by omega);simp[g.pick,g.make,    ptr,<-D,<-u,<-E,<-w,<-x,<-z,an,bB,setCells,bA,-xZ,-Mi]
 have Z:∀f s,aF 9 f=some (.pointer (some ⟨p,0,none⟩))->aF 6 f=some (.pointer (some ⟨c,0,none⟩))->aC pm p q s->s.get p=some (.cells [.slice j l.a.length i,.slice m l.rows.length n,.bool deep,.int .i64 (lo k:Int),.slice none 0 0,.slice none 0 0,.int .i64 2,.string ⟨#[]⟩,.slice none 0 0,.slice none 0 0,.slice none 0 0,.pointer none] (.t h1))->
  wp X pm (.code xZ) f s [] ag:=by
  intro f s l9 l6 v f
  have sr:fY s p (.slice j l.a.length i) (.slice m l.rows.length n) deep (lo k) py p p 0:=
   ⟨⟨bc _,bc _⟩,⟨⟨_,f⟩,⟨_,f⟩⟩,_,_,_,_,f,.inl ⟨rfl,rfl,rfl⟩,.inl ⟨rfl,rfl⟩,⟨fp.nil,λb _ _ i g=>by cases g⟩,rfl⟩
  have f:=v.h;have aa:aC pm p d s:=aC.trans (by rw[x];exact I) v;have d:=g.ah;simp[l9,-Ev];refine al.of (a':=by simp) (aq:=[.pointer (some ⟨p,0,none⟩)]) (aaX Q f (by omega) hm sr V (by omega) aa (R.ext (W.ext g)) af QD rfl rfl rfl) ?_;rintro _ h ⟨a,b,_,aH,_,C,rfl,d,F⟩;have e:=F.h;obtain⟨_,_,_,B,A,_,ab,_,ad,ae,_⟩:=id d;have L:h.get c=some (.cells [.int .i64 0,.string ⟨#[]⟩,.slice none 0 0,.slice none 0 0,.slice none 0 0] (.t T.AS)):=(F.get c (by omega)).trans ((aa.get c (by omega)).trans aj);have d:pm.may c=true:=g.may (by omega);obtain⟨M,N,rfl⟩:=ae.form;obtain⟨rb,rfl⟩:=ad.form;simp[-Ev];simp;refine cx.of e.ah rfl ?_;obtain⟨r,t⟩:∃A,A=(h.up 12).put c (.cells [.int .i64 a.L.st,ak a.L.val,.slice M a.L.x.length N,.slice none 0 0,.slice none 0 0] (.t T.AS)):=⟨_,rfl⟩;have f:=e.lt ab;have i:=e.lt L;have d:K pm h (h.up 12):=(K.refl e).up 12;have j:=d.some e L;have m:aC pm c h r:=by rw[t];exact aC.put (d.mono (by omega)) (bc _) j (by simp) _
  have n:c6 [c] [p]=true:=gd (by omega);have au:r.get c=some (.cells [.int .i64 a.L.st,ak a.L.val,.slice M a.L.x.length N,.slice none 0 0,.slice none 0 0] (.t T.AS)):=by rw[t];exact bO
  have p:=λo=>ej (ah:=pm.ah) (ok:=pm.ok) (o:=o) (b:=c) (by omega);have q:∀j,r.get (h.next+j)=none:=λj=>by rw[t,a6 (by omega)];exact e.none j
  simp[b8,e.none,e.O,ab,L,l9,l6,p,q,bB,setCells,bA,b3,bZ, cU,n,f,i,<-t];have kF:K pm H r:=by
   have q:aC pm H.next H h:=aC.trans ao (aC.trans (v.mono (by omega)) (F.mono (by omega)));exact aC.trans q (m.mono (by omega))
  have O:∀b y,c<b->h.get b=some y->r.get b=some y:=λb y _ h=>by
   rw[t,a6 (by omega)];exact d.some e h
  refine hQ _ _ _ ⟨.inr rfl,[.agg #[.int .i64 a.L.st,ak a.L.val,.slice M a.L.x.length N,.slice none 0 0,.slice none 0 0],.slice rb a.tree.length a.tree.length,.bool b],by simp[l6,au,ft,bA,bB],kF,a,b,_,_,aH,C,rfl,?_,?_,by omega⟩
  ·exact ae.imp (iS:=λb=>H.next<=b) λb y a e=>⟨by have:=a.1;omega,O b y (by have:=a.1;omega) e⟩
  ·exact ad.imp (λb y a e=>⟨by have:=a.1;omega,O b y (by have:=a.1;omega) e⟩) λ_ e=>O _ _ (by omega) e
 by_cases P:0<k
 ·simp[P,J,bB,setCells,ar,-xZ];refine Z _ _ (by simp) (by simp) (aC.put (.refl Y) (bc _) J (by simp) _) ?_;rw[bO];have e:((lo k:Nat):Int)=if k<300 then k else 300:=by unfold lo;split<;>omega
  rw[e]
 ·simp[P,-xZ];refine Z _ _ (by simp) (by simp) (.refl Y) ?_;have e:lo k=300:=by unfold lo;rw[aw P]
  rw[e];exact J
end Go.Dam.C
namespace Go.Dam.C
open Go Go.Dam
theorem U8{q:Rat}{N:Nat}(h:q.num.natAbs<=N):-((N:Int):Rat)<=q/\q<=((N:Int):Rat):=by
 have a:(N:Int)*1<=N*(q.den:Int):=Int.mul_le_mul_of_nonneg_left (by have:=q.den_pos;omega) ω;constructor
 ·rw[<-Rat.intCast_neg,Rat.le_iff,Rat.num_intCast,Rat.den_intCast,Int.neg_mul];omega
 ·rw[Rat.le_iff,Rat.num_intCast,Rat.den_intCast];omega
theorem ku.short{s:List UInt8}(aP:s≠[])(h:s.length<=20):ku s:=by
 have a:=U8 (tv h).1;have e:(((10^20:Nat):Nat):Int)=(10:Int)^20:=by decide +kernel
 rw[e]at a;refine⟨aP,ω,?_,?_⟩
 ·rw[x0];exact a.1
 ·rw[x0];exact a.2
def eE(t:Bool)(c:a1):a1:=if t then{c with cost:=[48]} else c
theorem oB{t:Bool}{c:a1}:(eE t c).low=c.low:=by cases t<;>rfl
theorem oC{t:Bool}{c:a1}:(eE t c).up=c.up:=by cases t<;>rfl
theorem vY{t:Bool}{c:a1}:(eE t c).int=c.int:=by cases t<;>rfl
noncomputable def cB(l:ar):Bool:=decide ((eo l).st=3)
noncomputable def db(l:ar):ar:=⟨l.a.map (eE (cB l)),l.rows⟩
def nV(l:ar):Bool:=l.a.any λc=>c.int&&(c.low.isEmpty||c.up.isEmpty)
theorem p1{l:ar}:(db l).a.length=l.a.length:=by simp[db]
theorem wJ{l:ar}{i:Nat}(az:i<l.a.length):(db l).ad i=eE (cB l) (l.ad i):=by
 rw[<-BK,<-BK];simp[db,en az]
structure nr(l:ar):Prop where
 s:c5 l
 b:∀c∈l.a,c.low.length<=20/\c.up.length<=20
 k:∀i,i<l.rows.length->(l.row i).G.length<=1000
theorem nr.ok{l:ar}(h:nr l)(d:nV l=false):jq (db l):=by
 refine⟨⟨by rw[p1];exact h.s.n,h.s.m,λc a=>?_,h.s.r⟩,λ_ b e=>?_⟩
 ·obtain⟨c,f,rfl⟩:=gl.1 a;let⟨g,i,_⟩:=h.s.c c f;refine⟨by rw[oB];exact g,by rw[oC];exact i,?_⟩;unfold eE;grind
 ·rw[p1]at b;rw[wJ b]at e|-;rw[vY]at e;rw[oB,oC];have a:=cX (ar.kc b);have c:=h.b _ a;have b:=List.any_eq_false.1 d _ a;simp[e]at b;exact⟨.short b.1 c.1,.short b.2 c.2⟩
inductive iy(l:ar)(deep:Bool)(k:Int):cW->List cz->Int->Prop
 | form:l.I=false->iy l deep k ⟨0,[],[],[],[]⟩ [] 1
 | wide:l.I=true->nV l=true->iy l deep k ⟨0,[],[],[],[]⟩ [] 10
 | jj (iN:bV):l.I=true->nV l=false->hz (db l) deep (lo k) (py.U (db l).a) iN false->iy l deep k ⟨4,[],[],[],[]⟩ [] 0
 | cB (iN:bV):l.I=true->nV l=false->hz (db l) deep (lo k) (py.U (db l).a) iN true->cB l=true->iN.L.st=1->iy l deep k ⟨3,[],iN.L.x,[],(eo l).r⟩ [] 0
 | done (iN:bV):l.I=true->nV l=false->hz (db l) deep (lo k) (py.U (db l).a) iN true->¬(C.cB l=true/\iN.L.st=1)->iy l deep k ⟨iN.L.st,iN.L.val,iN.L.x,[],[]⟩ iN.tree 0
variable{X:aA}{pm cu:Perm}{H ab bX ai:ae}{n:Nat}
variable{deep:Bool}{l:ar}
theorem YZ(M:nw X)(g:bl pm H)(q:nr l){v:Value}(hl:gD H 0 v l){k:Int}(bq:-9223372036854775808<=k)(hk:k<=9223372036854775807):
 Call X pm F.si [v,.bool deep,.int .i64 k] H λr ab=>K pm H ab/\∃u C aH a t e,r=.tuple #[u,C,.int .i64 e]/\ky ab H.next u a/\gp ab (λb=>H.next<=b) aH C t/\H.next<=aH/\iy l deep k a t e:=by
 refine Call.W M.si rfl λaE hQ=>?_;obtain⟨c1,_,rfl,hc,hr⟩:=id hl;obtain⟨N,O,D,_⟩:=id hc;obtain⟨E,G,e2,_⟩:=id hr;subst D e2;obtain⟨p0,aG⟩:∃b,b=H.next:=⟨_,rfl⟩;obtain⟨I,aj⟩:∃I,I=H.new (.cells [.slice N l.a.length O,.slice E l.rows.length G] (.t T.TJ)):=⟨_,rfl⟩;have k1:K pm H I:=by rw[aj];exact K.new g _
 have g1:=k1.h;have br:I.get p0=some (.cells [.slice N l.a.length O,.slice E l.rows.length G] (.t T.TJ)):=by rw[aj,aG];exact cc
 have n1:I.next=p0+1:=by rw[aj,aG];rfl
 obtain⟨p,aJ⟩:∃b,b=I.next:=⟨_,rfl⟩;obtain⟨J,an⟩:∃J,J=I.new (.cells [.int .i64 0,.string ⟨#[]⟩,.slice none 0 0,.slice none 0 0,.slice none 0 0] (.t T.sk)):=⟨_,rfl⟩;have x:K pm I J:=by rw[an];exact K.new g1 _
 have g2:=x.h;have bs:J.get p=some (.cells [.int .i64 0,.string ⟨#[]⟩,.slice none 0 0,.slice none 0 0,.slice none 0 0] (.t T.sk)):=by rw[an,aJ];exact cc
 have aZ:=x.some g1 br;have a7:=k1.trans x;have I:J.next=p+1:=by rw[an,aJ];rfl
 have W:pm.may p=true:=g.may (by omega);have Y:∀{ab:ae} {n:Nat},h7 ab n (.slice none 0 0) []:=⟨fp.nil,λb o _ d e=>by cases e⟩
 have aK:∀m ab y B xv dv rv C e aH a t,aF 6 m=some (.pointer (some ⟨p,0,none⟩))->aF 7 m=some C->aF 8 m=some (.int .i64 e)->K pm H ab->ab.get p=some (.cells [.int .i64 y,ak B,xv,dv,rv] (.t T.sk))->
  ky ab H.next (.agg #[.int .i64 y,ak B,xv,dv,rv]) a->gp ab (λb=>H.next<=b) aH C t->H.next<=aH->iy l deep k a t e->aE .ret m ab:=λm ab y B xv dv rv C e aH a t l6 l7 l8 kk hp aI c f q=>by
  refine hQ _ _ _ ⟨.inr rfl,[.agg #[.int .i64 y,ak B,xv,dv,rv],C,.int .i64 e],by simp[l6,l7,l8,hp,ft,bA,bB],kk,_,C,aH,a,t,e,rfl,aI,c,f,q⟩
 have aM:∀m ab y B e,aF 6 m=some (.pointer (some ⟨p,0,none⟩))->aF 7 m=some (.slice none 0 0)->aF 8 m=some (.int .i64 e)->K pm H ab->ab.get p=some (.cells [.int .i64 y,ak B,.slice none 0 0,.slice none 0 0,.slice none 0 0] (.t T.sk))->iy l deep k ⟨y,B,[],[],[]⟩ [] e->aE .ret m ab:=λm ab y B e l6 l7 l8 kk hp q=>
  aK m ab y B _ _ _ _ e H.next _ [] l6 l7 l8 kk hp ⟨_,_,_,rfl,Y,Y,Y⟩ (.inl ⟨rfl,rfl⟩) (bc _) q
 simp[g.pick,g.make,  ptr,<-aG,<-aj,<-aJ,<-an,aZ,bB,bA,-LZ,-LV,-En];refine al.of (aq:=[.agg #[.slice N l.a.length O,.slice E l.rows.length G]]) (qV M.tofA g2 (hl.aa.ext (a7.ext g)) q.s.ok) ?_;rintro _ H3 ⟨k3,rfl⟩;have g3:=k3.h;have aN:=K.trans a7 k3;have aO:=k3.some g2 bs;have a8:=k3.some g2 aZ
 cases ad:l.I with
 | false=>
   obtain⟨b,a⟩:∃A,A=H3.put p (.cells [.int .i64 0,.string ⟨#[]⟩,.slice none 0 0,.slice none 0 0,.slice none 0 0] (.t T.sk)):=⟨_,rfl⟩;have c:K pm H b:=by rw[a];exact aC.put aN (by omega) aO (by simp) _
   simp[aO, setCells,W,<-a,-En];refine aM _ b 0 [] 1 (by simp) (by simp) (by simp) c (by rw[a];simp) (.form ad)
 | true=>
   simp[a8,-LU,-Em];have y:nV l=true↔∃i,i<l.a.length/\((l.a[i]?.map λd=>d.int&&(d.low.isEmpty||d.up.isEmpty)).getD false)=true:=by
    unfold nV;rw[List.any_eq_true];constructor
    ·rintro⟨d,hc,h⟩;obtain⟨i,_⟩:=u5 hc;grind
    ·grind
   have B:dE H3 (.slice N l.a.length O) l.a.length 5 (gA l.a):=(hc.imp (aN.ext g) λ_ _ _ h=>h).aZ;refine al.of (aI:=by simp;rfl) (aq:=[.slice N l.a.length O,.func (.func F.sj) #[] #[]]) (MF M.tofA g3 B (by have:=q.s.n;omega) (f:=F.sj) (cs:=#[]) (λi=>((l.a[i]?.map λd=>d.int&&(d.low.isEmpty||d.up.isEmpty)).getD false)) ?_ (t:=nV l) y) ?_
   ·rintro i J cs _ ⟨d,c,rfl⟩ x;refine Call.hT M.sj rfl ?_;have a:=K.new x.h (.cells d.cells (.t T.LN));have b:(J.new (.cells d.cells (.t T.LN))).get J.next=some (.cells d.cells (.t T.LN)):=cc;obtain⟨_,e,_,_,f⟩:=d;simp only[a1.cells]at a b|-
    cases f with
    | false=>simp[x.h.pick,x.h.make,ptr,bB,bA,b,c];exact a
    | true=>
      rcases e with _ | ⟨_,e⟩
      ·simp[x.h.pick,x.h.make,ptr,bB,bA,b,c];exact a
      ·simp[x.h.pick,x.h.make,ptr,bB,bA,b,c];exact a
   rintro _ H4 ⟨k4,rfl⟩;have g4:=k4.h;have ao:=K.trans aN k4;have au:=k4.some g3 aO;have a_:=k4.some g3 a8
   cases ae:nV l with
   | true=>
     obtain⟨b,a⟩:∃A,A=H4.put p (.cells [.int .i64 0,.string ⟨#[]⟩,.slice none 0 0,.slice none 0 0,.slice none 0 0] (.t T.sk)):=⟨_,rfl⟩;have c:K pm H b:=by rw[a];exact aC.put ao (by omega) au (by simp) _
     simp[au, setCells,W,<-a,-Em];refine aM _ b 0 [] 10 (by simp) (by simp) (by simp) c (by rw[a];simp) (.wide ad ae)
   | false=>
     simp[a_,bB,bA,-LS];refine al.of (aq:=[.agg #[.slice N l.a.length O,.slice E l.rows.length G]]) (MZ M.tofC g4 q.s.ok (hl.aa.ext (ao.ext g)) (λx=>Jo q.s x)) ?_;rintro _ H5 ⟨k5,⟨h,_⟩ | ⟨_,f,_,rfl,x,hS⟩⟩
     ·grind
     have v:=k5.h;have bt:=K.trans ao k5;have bu:=k5.some g4 au;have bw:=k5.some g4 a_;have bx:=x;obtain⟨_,_,_,rfl,x,y,ba⟩:=bx;obtain⟨bb,bd,D,_⟩:=x.1.ex;obtain⟨bf,bg,e2,_⟩:=y.1.ex;obtain⟨av,ax,e3,_⟩:=ba.1.ex;subst D e2 e3;obtain⟨X,ay⟩:∃d,d=H5.next:=⟨_,rfl⟩;have bz:pm.may X=true:=v.may (by omega);have bC:∀Q,(H5.new Q).get X=some Q:=λQ=>by rw[ay];simp
     obtain⟨r,az⟩:∃A,A=(H5.new (.cells [.int .i64 0,.string ⟨#[]⟩,.slice none 0 0,.slice none 0 0,.slice none 0 0] (.t T.LO))).put X (.cells [.int .i64 f.st,ak f.val,.slice bb f.x.length bd,.slice bf f.d.length bg,.slice av f.r.length ax] (.t T.LO)):=⟨_,rfl⟩;have Z:K pm H5 r:=by rw[az,ay];exact gh v _ _
     have t:=Z.h;have af:=K.trans bt Z;have bh:=Z.some v bu;have bj:=Z.some v bw;have bk:r.get X=some (.cells [.int .i64 f.st,ak f.val,.slice bb f.x.length bd,.slice bf f.d.length bg,.slice av f.r.length ax] (.t T.LO)):=by rw[az];exact bO
     have x:r.next=X+1:=by rw[az,ay];rfl
     simp[v.pick,v.make,ptr, <-ay,bC,bz,<-az,setCells,-AO];refine cx.of t.ah rfl ?_;obtain⟨z,hz⟩:∃z,z=r.next:=⟨_,rfl⟩;have kU:K pm r (r.up 8):=(K.refl t).up 8;have aI:=λj=>(by rw[hz];exact t.none j:(r.up 8).get (z+j)=none);have bD:=(by rw[hz];exact t.O:(r.up 8).get z=none);obtain⟨F,ag⟩:∃A,A=(r.up 8).put (z+4) (.cells [.slice none 0 0,.slice none 0 0] (.t T.El)):=⟨_,rfl⟩;have aA:K pm r F:=by rw[ag];exact aC.fill kU (by omega) (aI 4) (by show z+4<r.next+8;omega) _
     have aP:=aA.h;have bl:∀j,j≠4->F.get (z+j)=none:=λj s=>by rw[ag,a6 (by omega)];exact aI j
     have bE:F.get (z+4)=some (.cells [.slice none 0 0,.slice none 0 0] (.t T.El)):=by rw[ag];exact bO
     have x:F.next=z+8:=by rw[ag,hz];rfl
     rw[<-hz];simp[b8,aI,bD,bj,Perm.make,Perm.pick,ptr,<-ag,-AO];refine cY aP (aq:=[.slice N l.a.length O]) (by simp[bl]) rfl (λcu x=>tQ (w:=5) (cR:=72) M.k0 x (hc.imp ((K.trans af aA).ext g) λ_ _ _ h=>h) (by have:=q.s.n;omega) (λi cs ⟨d,_,e⟩=>by rw[e];rfl)) ?_;rintro _ H7 k7 ⟨f1,c1,bF⟩;have x:=k7.h;have x:=k7.next;have bG:∀j,j<8->j≠4->H7.get (z+j)=none:=λj s x=>(k7.get _ (by omega)).trans (bl j x);have bm:=k7.some aP bE;obtain⟨R,e⟩:=c1.form;subst e;have bH:=λo=>ej (ah:=pm.ah) (ok:=pm.ok) (o:=o) (b:=z+4) (by have:=t.ah;omega);obtain⟨S,ai⟩:∃A,A=H7.put (z+4) (.cells [.slice R l.a.length l.a.length,.slice E l.rows.length G] (.t T.El)):=⟨_,rfl⟩;have x:p0<z:=by have:=K.next af;have:=t.lt bj;omega
     have y:c6 [z+4] [p0]=true:=gd (by omega);simp[bG,bm,setCells,bA,bH,<-ai,y,b3,bZ,fT,cU,dj,x,-AO];have x:=K.trans af (K.trans aA k7);have bI:K pm H S:=by rw[ai];exact aC.put x (by grind) bm (by simp) _
     have ht:decide (f.st=3)=cB l:=by unfold cB;rw[vg hS]
     have aQ:S.get (z+4)=some (.cells [.slice R l.a.length l.a.length,.slice E l.rows.length G] (.t T.El)):=by rw[ai];exact bO
     have aR:∀b L,r.get b=some L->S.get b=some L:=λb L h=>by
      have:=t.lt h;rw[ai,a6 (by omega)];exact k7.some aP (aA.some t h)
     have bJ:=aR _ _ bk;have bK:=aR _ _ bh;have r:=t.lt bk;have r:=t.lt bh;have bn:eS S F.next H7.next (.slice R l.a.length l.a.length) l.a.length 5 λj=>(if j<0 then eE (cB l) (l.ad j) else l.ad j).cells:=by
      have h:eS S F.next H7.next (.slice R l.a.length l.a.length) l.a.length 5 f1:=by rw[ai];exact c1.put (.inl (by omega)) _
      refine h.congr λj s=>?_;obtain⟨d,D,e2⟩:=bF j s;rw[ar.kc s]at D;cases D;simp[e2]
     have r:=q.s.n;obtain⟨n,aS⟩:∃d,d=l.a.length:=⟨_,rfl⟩;rw[<-aS]at aQ bn;simp[aQ,<-aS,-LQ,-LY]
     refine fh.of (σ:=Nat) (λi=>[(11,.pointer (some ⟨z+4,0,none⟩)),(9,.pointer (some ⟨X,0,none⟩)),(6,.pointer (some ⟨p,0,none⟩)),(1,.bool deep),(2,.int .i64 k),(37,.int .i64 (n:Int)),(38,.int .i64 (i:Int))])
      (λi ab=>i<=n/\K pm H ab/\(∀b L,b<F.next->S.get b=some L->ab.get b=some L)/\S.next<=ab.next/\eS ab F.next H7.next (.slice R n n) n 5 λj=>(if j<i then eE (cB l) (l.ad j) else l.ad j).cells) (λi=>n-i) 0 (by simp) ⟨Nat.zero_le _,bI,λ_ _ _ h=>h,bc _,bn⟩ ?_
     rintro i H9 ⟨_,u,aa,n9,aT⟩;have g9:=u.h;have bo:=aa _ _ (by omega) aQ;have aB:=aa _ _ (by omega) bJ;have bp:=aa _ _ (by omega) bK;by_cases aD:i<n
     ·have o:wr .i64 ((i:Int)+1)=((i+1:Nat):Int):=by rw[cE];simp
      by_cases c:f.st=3
      ·obtain⟨b,w,V,q2,q3,P,T⟩:=aT.pos (by omega);cases q3;obtain⟨k,U⟩:∃l,l=w.set (i*5+3) (ak [48]):=⟨_,rfl⟩;have r:=T.lt aD (show 3<5 by decide);have sc:setCells w (i*5+3) [ak [48]]=some k:=by rw[U];exact setCells_one r
       obtain⟨ab,a⟩:∃A,A=H9.put b (.cells k (.n 5)):=⟨_,rfl⟩;have r:H.next<=b:=by have:=K.next af;omega
       have q:pm.may b=true:=g.may r;have w:K pm H ab:=by rw[a];exact aC.put u r P (by simp) _
       rw[c]at ht;have ah:ey k 5 n λj=>(if j<i+1 then eE (cB l) (l.ad j) else l.ad j).cells:=by
        rw[U];refine T.set aD (by decide) _ ?_ λj s h=>?_
        ·simp[<-ht,eE,a1.cells]
        ·by_cases e:j<i
         ·rw[aL e,aL (by omega)]
         ·rw[aw e,aw (by omega)]
       simp[aD,aB,c,bo,P,sc,q,<-a,o];refine kt.of (i+1) ?_ (by simp) ⟨by omega,w,λ_ L hb h=>?_,?_,.inr ⟨b,k,V,q2,rfl,by rw[a];exact bO,ah⟩⟩
       ·show n-(i+1)<n-i;omega
       ·rw[a,a6 (by omega)];exact aa _ _ hb h
       ·rw[a];exact n9
      ·simp[aD,aB,c,o];rw[j1 c]at ht;refine kt.of (i+1) ?_ (by simp) ⟨by omega,u,aa,n9,aT.congr λj s=>?_⟩
       ·show n-(i+1)<n-i;omega
       ·simp[<-ht,eE]
     ·obtain rfl:i=n:=by omega
      have bL:∀j,j<i->(db l).a[j]? = some (eE (cB l) (l.ad j)):=λj s=>by
       rw[<-wJ (by omega)];exact ar.kc (by rw[p1];omega)
      have bM:gD H9 0 (.agg #[.slice R i i,.slice E l.rows.length G]) (db l):=by
       refine⟨_,_,rfl,?_,hr.ext (u.ext g)⟩;rw[p1,<-aS];exact ds.mono (eS.e (P:=gA (db l).a) aT λj s=>⟨_,bL j s,by rw[aL s]⟩) (Nat.zero_le _) λ_ _ _ h=>h
      simp[bo,bB,bA,-L0,-LX];refine al.of (aq:=[.agg #[.slice R i i,.slice E l.rows.length G],.bool deep,.int .i64 k]) (aci M g9 (q.ok ae) bM (λj s=>q.k j s) bq hk) ?_;rintro _ ah ⟨ab,c,b,xv,rv,aH,aU,rfl,a1,a6,bN⟩;have o:=ab.h;obtain⟨xb,xc,rfl,_⟩:=id a1.1.ex;obtain⟨rb,rfl⟩:=a6.form;obtain⟨aw,aV⟩:∃d,d=ah.next:=⟨_,rfl⟩;have bP:pm.may aw=true:=o.may (by omega);have bQ:∀Q,(ah.new Q).get aw=some Q:=λQ=>by rw[aV];exact cc
      obtain⟨w,aW⟩:∃A,A=(ah.new (.cells [.int .i64 0,.string ⟨#[]⟩,.slice none 0 0,.slice none 0 0,.slice none 0 0] (.t T.LP))).put aw (.cells [.int .i64 c.L.st,ak c.L.val,.slice xb c.L.x.length xc,.slice none 0 0,.slice none 0 0] (.t T.LP)):=⟨_,rfl⟩;have U:K pm ah w:=by rw[aW,aV];exact gh o _ _
      have i:=U.h;have ka:K pm H w:=K.trans u (K.trans ab U);have aX:w.get aw=some (.cells [.int .i64 c.L.st,ak c.L.val,.slice xb c.L.x.length xc,.slice none 0 0,.slice none 0 0] (.t T.LP)):=by rw[aW];exact bO
      have aY:=U.some o (ab.some g9 aB);have V:=U.some o (ab.some g9 bp);have i:=g9.lt aB;have l1:=g9.lt bp;have i:=K.next af;simp[o.pick,o.make,ptr, <-aV,bQ,bP,<-aW,setCells,-LW,-LR]
      cases b with
      | false=>
        obtain⟨b,a⟩:∃A,A=w.put p (.cells [.int .i64 4,.string ⟨#[]⟩,.slice none 0 0,.slice none 0 0,.slice none 0 0] (.t T.sk)):=⟨_,rfl⟩;have e:K pm H b:=by rw[a];exact aC.put ka (by omega) V (by simp) _
        simp[V,setCells,W,<-a];refine aM _ b 4 [] 0 (by simp) (by simp) (by simp) e (by rw[a];exact bO) (.jj c ad ae aU)
      | true=>
        have i:p<H9.next:=l1;have P:∀g cs z,g=w.put p (.cells cs z)->h7 g H9.next (.slice xb c.L.x.length xc) c.L.x/\gp g (λb=>H9.next<=b) aH (.slice rb c.tree.length c.tree.length) c.tree/\h7 g H4.next (.slice av f.r.length ax) f.r:=λg cs z e=>by
         have a:=g4.lt au;have j:Ext H5 w:=λb L h=>U.some o (ab.some g9 (aa _ _ (by have:=t.lt (Z.some v h);omega) (aR _ _ (Z.some v h))));rw[e];exact⟨(a1.ext (U.ext o)).put i _,(a6.ext (U.ext o)).put i bN _,(ba.ext j).put a _⟩
        by_cases k:f.st=3/\c.L.st=1
        ·obtain⟨g,a⟩:∃A,A=w.put p (.cells [.int .i64 3,.string ⟨#[]⟩,.slice xb c.L.x.length xc,.slice none 0 0,.slice av f.r.length ax] (.t T.sk)):=⟨_,rfl⟩;have b:K pm H g:=by rw[a];exact aC.put ka (by omega) V (by simp) _
         obtain⟨e,_,T⟩:=P g _ _ a;simp[V,aY,aX,k.1,k.2,setCells,W,<-a];have hu:cB l=true:=by rw[<-ht,k.1];rfl
         refine aK _ g 3 [] _ _ _ _ 0 H.next ⟨3,[],c.L.x,[],(eo l).r⟩ [] (by simp) (by simp) (by simp) b (by rw[a];exact bO) ⟨_,_,_,rfl,e.mono (K.next u),Y,?_⟩ (.inl ⟨rfl,rfl⟩) (bc _) (.cB c ad ae aU hu k.2);rw[vg hS];exact T.mono (K.next ao)
        ·obtain⟨g,e⟩:∃A,A=w.put p (.cells [.int .i64 c.L.st,ak c.L.val,.slice xb c.L.x.length xc,.slice none 0 0,.slice none 0 0] (.t T.sk)):=⟨_,rfl⟩;have i:K pm H g:=by rw[e];exact aC.put ka (by omega) V (by simp) _
         obtain⟨T,r2,_⟩:=P g _ _ e;have hn:¬(cB l=true/\c.L.st=1):=λh=>k ⟨by have:=h.1;rw[<-ht]at this;exact tq this,h.2⟩;have H:∀m,aF 6 m=some (.pointer (some ⟨p,0,none⟩))->aF 7 m=some (.slice rb c.tree.length c.tree.length)->aF 8 m=some (.int .i64 0)->aE .ret m g:=λm a b d=>
          aK m g c.L.st c.L.val _ _ _ _ 0 aH ⟨c.L.st,c.L.val,c.L.x,[],[]⟩ c.tree a b d i (by rw[e];exact bO) ⟨_,_,_,rfl,T.mono (K.next u),Y,Y⟩ (r2.mono (K.next u)) (by have:=K.next u;omega) (.done c ad ae aU hn)
         by_cases e3:f.st=3
         ·have D:c.L.st≠1:=λh=>k ⟨e3,h⟩;simp[V,aY,aX,e3,D,setCells,bB,bA,W,<-e];exact H _ (by simp) (by simp) (by simp)
         ·have a:(f.st==3)=false:=by simp[e3]
          simp[V,aY,aX, a,setCells,bB,bA,W,<-e];exact H _ (by simp) (by simp) (by simp)
end Go.Dam.C
namespace Go.Dam.C
open Go Go.Dam
variable{deep:Bool}{l:ar}
theorem hz.up{l:ar}{m n:Nat}{s a b:bV}{x:Bool}(c:m<=n)(h:hz l deep m s a true)(g:hz l deep n s b x):a=b/\x=true:=by
 let⟨_,_⟩:=(h.more c rfl).Wc g;grind
theorem iy.mono{k dy:Int}{b c:cW}{d e:List cz}{f g:Int}(h:lo k<=lo dy)(i:iy l deep k b d f)(a:iy l deep dy c e g):f=g/\(b.st=4∨b=c/\d=e):=by
 cases i with
 | form _=>
   cases a with
   | form _=>grind
   | wide _ _=>grind
   | jj _ _ _ _=>grind
   | cB _ _ _ _ _ _=>grind
   | done _ _ _ _ _=>grind
 | wide _ _=>
   cases a with
   | form _=>grind
   | wide _ _=>grind
   | jj _ _ _ _=>grind
   | cB _ _ _ _ _ _=>grind
   | done _ _ _ _ _=>grind
 | jj _ _ _ _=>
   refine⟨?_,.inl rfl⟩
   cases a with
   | form _=>grind
   | wide _ _=>grind
   | jj _ _ _ _=>rfl
   | cB _ _ _ _ _ _=>rfl
   | done _ _ _ _ _=>rfl
 | cB _ _ _ b _ _=>
   cases a with
   | form _=>grind
   | wide _ _=>grind
   | jj _ _ _ c=>let⟨_,f⟩:=b.up h c;cases f
   | cB _ _ _ c _ _=>obtain⟨rfl,_⟩:=b.up h c;grind
   | done _ _ _ c _=>obtain⟨rfl,_⟩:=b.up h c;grind
 | done _ _ _ b _=>
   cases a with
   | form _=>grind
   | wide _ _=>grind
   | jj _ _ _ c=>let⟨_,f⟩:=b.up h c;cases f
   | cB _ _ _ c _ _=>obtain⟨rfl,_⟩:=b.up h c;grind
   | done _ _ _ c _=>obtain⟨rfl,_⟩:=b.up h c;grind
end Go.Dam.C
namespace Go.Dam.C
theorem s3{s:List UInt8}(h:isNum s=true):bk (rd s)=s:=by
 unfold isNum at h;unfold rd
 cases e:gq s with
 | none=>grind
 | some _=>
   unfold gq lh at e;grind
theorem nL{s:List UInt8}(h:isNum s=true):s≠[]:=by
 rintro rfl;simp[isNum,gq,lh,ik,kH,ie]at h
theorem Ja{s:List UInt8}(h:isNum s=false):rd s=0:=by
 unfold isNum at h;unfold rd;simp_all
theorem aat(b:Rat):rd (bk b)=b∨rd (bk b)=0:=by
 cases e:isNum (bk b) with
 | true=>exact .inl (xb (s3 e))
 | false=>exact .inr (Ja e)
theorem aad{b:Rat}(h:0<rd (bk b)):0<b:=by
 rcases aat b with e | e
 ·rwa [e]at h
 grind
def lQ(c:a1)(v:Rat):a1:=if isNum c.up=true/\rd c.up<=v then c else{c with up:=bk v}
def lP(c:a1)(v:Rat):a1:=if isNum c.low=true/\v<=rd c.low then c else{c with low:=bk v}
def f'(cs:List a1)(i:Nat)(v:Rat):List a1:=cs.set i (lQ (cs.getD i bY) v)
def gG(cs:List a1)(i:Nat)(v:Rat):List a1:=cs.set i (lP (cs.getD i bY) v)
def ju(c:a1):Bool:=isNum c.low&&(isNum c.up&&decide (rd c.up<rd c.low))
def k1(rows:List b9)(a:Rat)(all:Bool)(cs:List a1)(d:List (List UInt8)):Bool:=
 cs.any ju||(((eX ⟨cs,rows⟩ d false).isSome&&decide (0<rd (fR (eX ⟨cs,rows⟩ d false))))||(!all&&((eX ⟨cs,rows⟩ d true).isSome&&decide (a<=rd (fR (eX ⟨cs,rows⟩ d true))))))
structure sv(tree:List cz)(k:Nat)(cs:List a1)(s:List Bool)(x:cz):Prop where
 n:isNum x.at'=true
 w:(rd x.at').den=1
 c:x.ad<(cs.length:Int)
 i:(cs.getD x.ad.toNat bY).int=true
 XI:(k:Int)<x.l
 XM:x.l<(tree.length:Int)
 Ya:s.getD x.l.toNat false=false
 l7:(k:Int)<x.r
 l8:x.r<(tree.length:Int)
 aap:(s.set x.l.toNat true).getD x.r.toNat false=false
inductive h6(rows:List b9)(tree:List cz)(kL:Rat)(all:Bool):Nat->List a1->List Bool->Bool->List Bool->Prop
 | leaf (k:Nat) (cs:List a1) (s:List Bool) (x:cz):tree[k]? = some x->x.ad<0->h6 rows tree kL all k cs s (k1 rows kL all cs x.d) (s.set k true)
 | bad (k:Nat) (cs:List a1) (s jJ:List Bool) (x:cz):tree[k]? = some x->0<=x.ad->¬sv tree k cs (s.set k true) x->h6 rows tree kL all k cs s false jJ
 | left (k:Nat) (cs:List a1) (s Ah:List Bool) (x:cz):tree[k]? = some x->0<=x.ad->sv tree k cs (s.set k true) x->h6 rows tree kL all x.l.toNat (f' cs x.ad.toNat (rd x.at')) (((s.set k true).set x.l.toNat true).set x.r.toNat true) false Ah->h6 rows tree kL all k cs s false Ah
 | both (k:Nat) (cs:List a1) (s Ah SC:List Bool) (b:Bool) (x:cz):tree[k]? = some x->0<=x.ad->sv tree k cs (s.set k true) x->h6 rows tree kL all x.l.toNat (f' cs x.ad.toNat (rd x.at')) (((s.set k true).set x.l.toNat true).set x.r.toNat true) true Ah->h6 rows tree kL all x.r.toNat (gG cs x.ad.toNat (rd x.at'+1)) Ah b SC->h6 rows tree kL all k cs s b SC
structure pK(rows:List b9)(cs:List a1)(x:Nat->Rat):Prop where
 f:h4 ⟨cs,rows⟩ x
 w:∀i,i<cs.length->(cs.getD i bY).int=true->(x i).den=1
structure tT(l:ar)(cs:List a1):Prop where
 len:cs.length=l.a.length
 c:∀i,i<cs.length->(cs.getD i bY).cost=(l.ad i).cost/\(cs.getD i bY).int=(l.ad i).int
def kB(l:ar)(cs:List a1)(a:Rat)(all:Bool):Prop:=∀x,pK l.rows cs x->all=false/\a<=l.P x
theorem SQ{l:ar}{cs:List a1}(h:tT l cs)(x:Nat->Rat):(⟨cs,l.rows⟩:ar).P x=l.P x:=by
 show aS (λi=>rd (cs.getD i bY).cost*x i) cs.length=aS (λi=>rd (l.ad i).cost*x i) l.a.length;rw[<-h.len];exact c9 λi a=>by rw[(h.c i a).1]
theorem Bm{aa:ar}{a:List (List UInt8)}{bQ:Bool}{b:Rat}(h:eX aa a bQ=some b):aa.I=true:=by
 unfold eX at h;split at h
 ·exact CN (by assumption)
 ·cases h
theorem Of{l:ar}{cs:List a1}{a:Rat}{all:Bool}(h:cs.any ju=true):kB l cs a all:=by
 intro _ b;let⟨_,c,h⟩:=List.any_eq_true.1 h;obtain⟨i,e,rfl⟩:=ux (d:=bY) c;unfold ju at h;simp at h;let⟨a,c,f⟩:=h;let⟨g,j⟩:=b.f.c i e;exact absurd f (fy.2 (Rat.le_trans (g (nL a)) (j (nL c))))
theorem QV{l:ar}{cs:List a1}{a:Rat}{all:Bool}{d:List (List UInt8)}(b7:(eX ⟨cs,l.rows⟩ d false).isSome=true)(cH:0<rd (fR (eX ⟨cs,l.rows⟩ d false))):kB l cs a all:=by
 intro _ b;obtain⟨_,a⟩:=n0.1 b7;rw[a]at cH;have:=Az b.f (vQ (Bm a) a);simp only[kl,if_false]at this;exact absurd (aad cH) (fy.2 this)
theorem Qc{l:ar}{cs:List a1}{e:Rat}{all:Bool}{d:List (List UInt8)}(ax:tT l cs)(f:∀b,eX ⟨cs,l.rows⟩ d true=some b->rd (bk b)=b)(h:k1 l.rows e all cs d=true):kB l cs e all:=by
 unfold k1 at h;rw[jG,jG]at h
 rcases h with h | h | h
 ·exact Of h
 ·simp at h;exact QV h.1 h.2
 ·intro _ d;simp at h;let⟨_,g,a⟩:=h;let⟨b,c⟩:=n0.1 g;rw[c]at a;have a:e<=rd (bk b):=a;rw[f b c]at a;have:=Az d.f (vQ (Bm c) c);simp at this;rw[SQ ax]at this;grind
theorem Ea{rows:List b9}{cs:List a1}{x:Nat->Rat}{i:Nat}{c:a1}(az:i<cs.length)(h:pK rows cs x)(d:c.int=(cs.getD i bY).int)(a:c.low≠[]->rd c.low<=x i)(a:c.up≠[]->x i<=rd c.up):pK rows (cs.set i c) x:=by
 refine⟨⟨λj a=>?_,λj a=>?_⟩,λj a b=>?_⟩
 ·have a:j<cs.length:=by simpa using a
  show(((cs.set i c).getD j bY).low≠[]->rd ((cs.set i c).getD j bY).low<=x j)/\(((cs.set i c).getD j bY).up≠[]->x j<=rd ((cs.set i c).getD j bY).up);rw[pX az];by_cases e:j=i
  ·grind
  ·rw[aw e];exact h.f.c j a
 ·have e:gz (⟨cs.set i c,rows⟩:ar) x j=gz (⟨cs,rows⟩:ar) x j:=by
   show aS (λq=>hs ((⟨cs,rows⟩:ar).row j).G q*x q) (cs.set i c).length=_;rw[tl];rfl
  rw[e];exact h.f.r j a
 ·have c:j<cs.length:=by simpa using a
  rw[pX az]at b;by_cases e:j=i
  ·subst e;rw[aL rfl,d]at b;exact h.w j c b
  ·rw[aw e]at b;exact h.w j c b
theorem Gy{q:Rat}(h:q.den=1):∃z:Int,q=(z:Rat):=⟨q.num,by
 have:=s6 q;rw[h]at this;grind⟩
theorem Px{p q:Rat}(b:p.den=1)(c:q.den=1)(h:p<q):p+1<=q:=by
 obtain⟨a,rfl⟩:=Gy b;obtain⟨_,rfl⟩:=Gy c;have h:=Rat.intCast_lt_intCast.1 h;have e:((a:Int):Rat)+1=((a+1:Int):Rat):=σ'
 rw[e];exact Rat.intCast_le_intCast.2 ω
theorem tT.set{l:ar}{cs:List a1}(h:tT l cs){i:Nat}{c:a1}(az:i<cs.length)(b7:c.cost=(cs.getD i bY).cost)(cH:c.int=(cs.getD i bY).int):tT l (cs.set i c):=by
 refine⟨by simp[h.len],λj b=>?_⟩;have a:j<cs.length:=by simpa using b
 rw[pX az];by_cases e:j=i
 ·subst e;rw[aL rfl,b7,cH];exact h.c j a
 ·rw[aw e];exact h.c j a
def oM(l:ar)(r:List (List UInt8)):Bool:=(List.range l.a.length).all λi=>!((l.ad i).int&&(decide (i<r.length)&&decide (r.getD i []≠[48])))
def j5(l:ar)(a:List cz)(c:List UInt8)(all:Bool)(b:Bool):Prop:=
 if l.I=true/\0<a.length/\a.length<=601/\(isNum c=true∨all=true) then
  ∃t d,h6 l.rows a (rd c) all 0 l.a (List.replicate a.length false) t d/\b=(t&&!d.contains false)
 else b=false
def iU(l:ar)(a:cW)(c:List cz)(b:Bool):Prop:=
 if l.I=true/\a.d.length=0 then
  if a.st=1 then
   if(gy l a.x).isSome=true/\fR (gy l a.x)=a.val/\fU l a.x=true/\jm l a.x=true/\a.r.length=0 then j5 l c a.val false b else b=false
  else if a.st=2 then
   if a.val=[]/\a.x.length+a.r.length=0 then j5 l c [] true b else b=false
  else if a.st=3 then b=(oM l a.r&&(decide (a.val=[])&&(fU l a.x&&(jm l a.x&&(iL l a.r&&decide (c.length=0))))))
  else b=false
 else b=false
inductive oe(l:ar)(a:cW):Prop
 | opt (x:Nat->Rat):a.st=1->pK l.rows l.a x->a.val=bk (l.P x)->kB l l.a (l.P x) false->oe l a
 | inf:a.st=2->a.val=[]->kB l l.a 0 true->oe l a
 | cB (x r:Nat->Rat):a.st=3->a.val=[]->pK l.rows l.a x->om l r->(∀i,i<l.a.length->(l.ad i).int=true->r i=0)->oe l a
theorem aaN{a:Int}{s b q k:Rat}(h:xy a s b)(g:xy a q 0)(c:0<=k):xy a (s+k*q) b:=by
 obtain⟨a,d,_⟩:=h;obtain⟨f,i,_⟩:=g;refine⟨λe=>?_,λe=>?_,λe _=>?_⟩
 ·have g:=a e;have b:=fW c (show 0<=-q by have:=f e;grind);grind
 ·have a:=d e;have b:=fW c (i e);grind
 grind
theorem h4.R3{aa:ar}{x r:Nat->Rat}(h:h4 aa x)(g:om aa r){k:Rat}(a:0<=k):h4 aa λi=>x i+k*r i:=by
 refine⟨λj b=>?_,λi c=>?_⟩
 ·obtain⟨d,f⟩:=h.c j b;obtain⟨i,k⟩:=g.c j b;refine⟨λe=>?_,λe=>?_⟩
  ·have b:=d e;have b:=fW a (i e);grind
  ·have b:=f e;have b:=fW a (show 0<=-r j by have:=k e;grind);grind
 ·have e:gz aa (λi=>x i+k*r i) i=gz aa x i+k*gz aa r i:=by
   unfold gz;rw[<-fP,<-kr];exact c9 λj _=>by grind
  rw[e];exact aaN (h.r i c) (g.r i c) a
theorem oe.wS{l:ar}{x r:Nat->Rat}(c:pK l.rows l.a x)(d:om l r)(aP:∀i,i<l.a.length->(l.ad i).int=true->r i=0){a:Rat}{all:Bool}(h:kB l l.a a all):False:=by
 have b:=d.n;have e:0 < -l.P r:=π
 have f:l.P r≠0:=π
 by_cases f:a<=l.P x-1
 ·have f:0<=(l.P x-a+1)/(-l.P r):=by
   rw[Rat.div_def];exact fW π (iJ (Rat.inv_pos.2 e))
  have g:pK l.rows l.a λi=>x i+(l.P x-a+1)/(-l.P r)*r i:=by
   refine⟨c.f.R3 d f,λi f b=>?_⟩;show(x i+(l.P x-a+1)/(-l.P r)*r i).den=1;rw[aP i f b,mX,lB];exact c.w i f b
  have f:=(h _ g).2;have g:l.P (λi=>x i+(l.P x-a+1)/(-l.P r)*r i)=l.P x+(l.P x-a+1)/(-l.P r)*l.P r:=by
   unfold ar.P;rw[<-fP,<-kr];exact c9 λ_ _=>π
  rw[g]at f;have f:(l.P x-a+1)/(-l.P r)*l.P r=-(l.P x-a+1):=π
  grind
 ·have a:0<=2/(-l.P r):=by
   rw[Rat.div_def];exact fW δ (iJ (Rat.inv_pos.2 e))
  have e:pK l.rows l.a λi=>x i+2/(-l.P r)*r i:=by
   refine⟨c.f.R3 d a,λi a b=>?_⟩;show(x i+2/(-l.P r)*r i).den=1;rw[aP i a b,mX,lB];exact c.w i a b
  have a:=(h _ e).2;have e:l.P (λi=>x i+2/(-l.P r)*r i)=l.P x+2/(-l.P r)*l.P r:=by
   unfold ar.P;rw[<-fP,<-kr];exact c9 λ_ _=>π
  rw[e]at a;have a:2/(-l.P r)*l.P r=-2:=π
  grind
theorem JX{l:ar}{xs:List (List UInt8)}(h:jm l xs=true):∀i,i<l.a.length->(l.ad i).int=true->(bU xs i).den=1:=by
 unfold jm at h;rw[bK]at h;intro i a _;have:=AA.1 h.2 i a;grind
theorem JU{l:ar}{xs:List (List UInt8)}{v:Rat}(h:gy l xs=some v):v=l.P (bU xs):=by
 unfold gy at h;grind
theorem CM{l:ar}{xs:List (List UInt8)}{m:Nat}(h:dJ l xs m=true):xs.length=m/\xs.all isNum=true:=by
 unfold dJ at h;grind
inductive cQ
 | ag (k:Nat)
 | aH (k:Nat) (a b:cQ)
def cQ.rt:cQ->Nat
 | .ag k=>k
 | .aH k _ _=>k
def cQ.B:cQ->List Nat
 | .ag k=>[k]
 | .aH k a b=>k::(a.B++b.B)
def cQ.gQ:cQ->List Nat
 | .ag k=>[k]
 | .aH _ a b=>a.gQ++b.gQ
def cQ.jK(k n:Nat):cQ->cQ
 | .ag j=>if j=k then .aH k (.ag n) (.ag (n+1)) else .ag j
 | .aH j a b=>.aH j (a.jK k n) (b.jK k n)
theorem cQ.Ae{k n:Nat}:∀{t:cQ},(t.jK k n).rt=t.rt
 | .ag _=>by
   unfold cQ.jK;split
   ·rename_i e;exact e.symm
   ·rfl
 | .aH _ _ _=>rfl
theorem cQ.nb:∀{t:cQ},t.rt∈t.B
 | .ag _=>.head _
 | .aH _ _ _=>.head _
theorem cQ.wG:∀{t:cQ} {k:Nat},k∈t.gQ->k∈t.B
 | .ag _,k,h=>h
 | .aH _ _ _,k,h=>by
   rcases fc.1 h with h | h
   ·exact .tail _ (fc.2 (.inl (cQ.wG h)))
   ·exact .tail _ (fc.2 (.inr (cQ.wG h)))
theorem cQ.DP{k n:Nat}:∀{t:cQ},k∉t.gQ->t.jK k n=t
 | .ag _,h=>by
   unfold cQ.jK;rw[aw];rintro rfl;exact h (.head _)
 | .aH _ a b,h=>by
   have c:k∉a.gQ:=λe=>h (fc.2 (.inl e));have a:k∉b.gQ:=λe=>h (fc.2 (.inr e));rw[cQ.jK,cQ.DP c,cQ.DP a]
theorem cQ.Hg{k n:Nat}:∀{t:cQ},t.B.Nodup->k∈t.gQ->(t.jK k n).B.Perm (n::(n+1)::t.B)
 | .ag j,_,h=>by
   obtain rfl:k=j:=mV.1 h;rw[cQ.jK,aL rfl];show[k,n,n+1].Perm [n,n+1,k];exact(@List.perm_append_comm _ [k] [n,n+1])
 | .aH j a b,e,h=>by
   have f:(j::(a.B++b.B)).Nodup:=e;let⟨_,e⟩:=List.nodup_cons.1 f;let⟨g,i,d⟩:=List.nodup_append.1 e;rw[cQ.jK];show(j::((a.jK k n).B++(b.jK k n).B)).Perm (n::(n+1)::j::(a.B++b.B));have c:((a.jK k n).B++(b.jK k n).B).Perm (n::(n+1)::(a.B++b.B))->(j::((a.jK k n).B++(b.jK k n).B)).Perm (n::(n+1)::j::(a.B++b.B)):=λp=>
    (p.cons j).trans (@List.perm_append_comm _ [j] [n,n+1] |>.append_right _)
   rcases fc.1 h with h | h
   ·have l:k∉b.gQ:=λe=>d _ (cQ.wG h) _ (cQ.wG e) rfl;rw[cQ.DP l]at c|-;exact c ((cQ.Hg g h).append_right b.B)
   ·have l:k∉a.gQ:=λe=>d _ (cQ.wG e) _ (cQ.wG h) rfl;rw[cQ.DP l]at c|-;exact c (((cQ.Hg i h).append_left a.B).trans (by
     have:=@List.perm_append_comm _ a.B [n,n+1];have:=this.append_right b.B;simpa using this))
structure kv(c:a1)(v:Rat):Prop where
 i:c.int=true
 cw:isNum c.low=true
 gg:isNum c.up=true
 ah:rd c.low<=v
 az:v<=rd c.up
 d:v.den≠1
 c0:-ff<=v
 b':v<=ff
def ec(v:Rat):Rat:=((v.floor:Int):Rat)
theorem Hc{z:Int}(aP:z.natAbs<=10^20):bI e0 (z:Rat):=by
 refine⟨?_,?_⟩
 ·rw[Rat.num_intCast];exact a8 aP (by rw[<-fQ];exact j4)
 ·rw[Rat.den_intCast];exact As 1900
theorem WD{v:Rat}(a:-ff<=v)(b:v<=ff):v.floor.natAbs<=10^20:=by
 refine ze ?_ (Rat.le_trans (Rat.floor_le v) b);rw[vs]at a|-;exact Rat.intCast_le_intCast.2 (Rat.le_floor_iff.2 a)
theorem WC{v:Rat}(a:-ff<=v)(b:v<=ff)(d:v.den≠1):(v.floor+1).natAbs<=10^20:=by
 refine ze ?_ ?_
 ·rw[vs]at a|-;have:=Rat.le_floor_iff.2 a;exact Rat.intCast_le_intCast.2 ω
 ·rw[x0]at b|-;have a:((v.floor:Int):Rat)<((10^20:Int):Rat):=(by have:=Cc d;grind);have a:=Rat.intCast_lt_intCast.1 a;exact Rat.intCast_le_intCast.2 ω
theorem O6(v:Rat):ec v+1=((v.floor+1:Int):Rat):=by simp[ec]
theorem kv.bI{c:a1}{v:Rat}(h:kv c v):bI e0 (ec v)/\C.bI e0 (ec v+1):=⟨Hc (WD h.c0 h.b'),by rw[O6];exact Hc (WC h.c0 h.b' h.d)⟩
theorem kv.Vf{c:a1}{v:Rat}(h:kv c v):lQ c (ec v)={c with up:=bk (ec v)}:=by
 unfold lQ;rw[aw];rintro⟨_,_⟩;have a:ec v<v:=Cc h.d;have:=h.az;grind
theorem Qm(v:Rat):v<ec v+1:=by
 rw[O6];have:=Rat.lt_floor (x:=v);simp at this|-;grind
theorem kv.UQ{c:a1}{v:Rat}(h:kv c v):lP c (ec v+1)={c with low:=bk (ec v+1)}:=by
 unfold lP;rw[aw];rintro⟨_,_⟩;have a:=Qm v;have:=h.ah;grind
theorem kv.f'{cs:List a1}{i:Nat}{v:Rat}(h:kv (cs.getD i bY) v):C.f' cs i (ec v)=h2 cs i (bk (ec v)):=by
 unfold C.f' h2;rw[h.Vf]
theorem kv.gG{cs:List a1}{i:Nat}{v:Rat}(h:kv (cs.getD i bY) v):C.gG cs i (ec v+1)=ig cs i (bk (ec v+1)):=by
 unfold C.gG ig;rw[h.UQ]
def ee(a:List cz)(P:Nat->List a1->List (List UInt8)->Prop):cQ->List a1->Prop
 | .ag k,b=>∃x,a[k]? = some x/\x.ad<0/\P k b x.d
 | .aH k c d,b=>∃x i v,a[k]? = some x/\x.ad=((i:Nat):Int)/\x.at'=bk (ec v)/\x.l=(c.rt:Int)/\x.r=(d.rt:Int)/\k<c.rt/\k<d.rt/\i<b.length/\kv (b.getD i bY) v/\ee a P c (h2 b i (bk (ec v)))/\ee a P d (ig b i (bk (ec v+1)))
section
variable{tree tJ:List cz}{P qW:Nat->List a1->List (List UInt8)->Prop}
theorem ee.JQ{k:Nat}{e:cz}(a:tree[k]? = some e)(h:e.ad<0)(b:∀j,j≠k->∀y,tree[j]? = some y->tJ[j]? = some y)(f:∀j cs d,j≠k->j<tree.length->P j cs d->qW j cs d)(g:∀cs,P k cs e.d->∃x,tJ[k]? = some x/\x.ad<0/\qW k cs x.d):∀{t:cQ} {cs:List a1},ee tree P t cs->ee tJ qW t cs
 | .ag j,cs,l=>by
   obtain⟨x,c,m,i⟩:=l;by_cases d:j=k
   ·subst d;rw[a]at c;cases c;exact g cs i
   ·exact⟨x,b j d _ c,m,f j cs _ d (hZ.1 c).1 i⟩
 | .aH j _ _,cs,d=>by
   obtain⟨x,i,v,c,l,m,n,o,p,q,r,s,t,u⟩:=d;have w:j≠k:=by
    rintro rfl;rw[a]at c;cases c;omega
   exact⟨x,i,v,b j w _ c,l,m,n,o,p,q,r,s,ee.JQ a h b f g t,ee.JQ a h b f g u⟩
theorem ee.split{k n:Nat}{f a y z:cz}(b:tree[k]? = some f)(x:f.ad<0)(c:∀j,j≠k->∀y,tree[j]? = some y->tJ[j]? = some y)(g:∀j cs d,j≠k->j<tree.length->P j cs d->qW j cs d)(e:k<n){i:Nat}{v:Rat}(h:tJ[k]? = some a)(l:a.ad=(i:Int))(m:a.at'=bk (ec v))(o:a.l=(n:Int))(p:a.r=((n+1:Nat):Int))(q:tJ[n]? = some y)(r:y.ad<0)(s:tJ[n+1]? = some z)(u:z.ad<0)
 (w:∀cs,P k cs f.d->i<cs.length/\kv (cs.getD i bY) v/\qW n (h2 cs i (bk (ec v))) y.d/\qW (n+1) (ig cs i (bk (ec v+1))) z.d):∀{t:cQ} {cs:List a1},ee tree P t cs->ee tJ qW (t.jK k n) cs
 | .ag j,cs,n=>by
   obtain⟨t,d,B,k⟩:=n;unfold cQ.jK;split
   ·rename_i C;subst C;rw[b]at d;cases d;obtain⟨j,D,E,F⟩:=w cs k;exact⟨a,i,v,h,l,m,o,p,e,Nat.lt_succ_of_lt e,j,D,⟨y,q,r,E⟩,⟨z,s,u,F⟩⟩
   ·rename_i A;exact⟨t,c j A _ d,B,g j cs _ A (hZ.1 d).1 k⟩
 | .aH j _ _,cs,i=>by
   obtain⟨n,t,v,d,y,z,B,D,E,F,G,H,I,J⟩:=i;have K:j≠k:=by
    rintro rfl;rw[b]at d;cases d;omega
   refine⟨n,t,v,c j K _ d,y,z,?_,?_,?_,?_,G,H,ee.split b x c g e h l m o p q r s u w I,ee.split b x c g e h l m o p q r s u w J⟩
   ·rw[cQ.Ae];exact B
   ·rw[cQ.Ae];exact D
   ·rw[cQ.Ae];exact E
   ·rw[cQ.Ae];exact F
theorem ee.leaf{k:Nat}{b:cz}(a:tree[k]? = some b)(c:b.ad<0):∀{t:cQ} {cs:List a1},ee tree P t cs->k∈t.B->k∈t.gQ
 | .ag _,cs,_,d=>d
 | .aH j _ _,cs,h,e=>by
   obtain⟨_,_,_,d,_,_,_,_,_,_,_,_,f,g⟩:=h;have i:k≠j:=by
    rintro rfl;rw[a]at d;cases d;omega
   rcases hH.1 e with h | h
   ·exact absurd h i
   ·rcases fc.1 h with h | h
    ·exact fc.2 (.inl (ee.leaf a c f h))
    ·exact fc.2 (.inr (ee.leaf a c g h))
theorem ee.imp(a:∀k cs d,P k cs d->qW k cs d):∀{t:cQ} {cs:List a1},ee tree P t cs->ee tree qW t cs
 | .ag _,cs,h=>by
   let⟨x,b,c,d⟩:=h;exact⟨x,b,c,a _ _ _ d⟩
 | .aH _ _ _,cs,h=>by
   let⟨x,i,v,b,c,d,e,f,g,j,k,l,m,n⟩:=h;exact⟨x,i,v,b,c,d,e,f,g,j,k,l,m.imp a,n.imp a⟩
variable{rows:List b9}{kL:Rat}{all:Bool}
theorem uy{s:List Bool}{i j:Nat} (az:i<s.length:=by omega):(s.set i true).getD j false=if j=i then true else s.getD j false:=by
 simp only[e5];by_cases e:j=i
 ·subst e;simp[az]
 ·rw[o2 (Ne.symm e),aw e]
theorem ee.node:∀{t:cQ} {cs:List a1},ee tree (λ_ cs d=>k1 rows kL all cs d=true) t cs->t.B.Nodup->∀{s:List Bool},s.length=tree.length->(∀j∈t.B,j<tree.length)->(∀j∈t.B,j≠t.rt->s.getD j false=false)->∀{b:Bool} {f:List Bool},h6 rows tree kL all t.rt cs s b f->b=true/\f.length=tree.length/\∀j,f.getD j false=true↔(s.getD j false=true∨j∈t.B)
 | .ag k,cs,h,_,s,c,d,_,b,f,e=>by
   let⟨x,b,_,g⟩:=h;have i:k<tree.length:=d k (.head _);have a:tree[(cQ.ag k).rt]? = some x:=b
   cases e with
   | leaf _ _ _ _ h _=>
     rw[a]at h;cases h;refine⟨g,by simp[c],λj=>?_⟩;show(s.set k true).getD j false=true↔_∨j∈[k];rw[uy,mV];by_cases e:j=k<;>simp[e]
   | bad _ _ _ _ _ h _=>rw[a]at h;cases h;omega
   | left _ _ _ _ _ h _=>rw[a]at h;cases h;omega
   | both _ _ _ _ _ _ _ h _=>rw[a]at h;cases h;omega
 | .aH k a b,cs,h,l,s,p,g,A,t,f,I=>by
   let⟨x,q,v,G,E,F,r,t,_,_,_,f,J,K⟩:=h;have i:tree[(cQ.aH k a b).rt]? = some x:=G;have G:k<tree.length:=g k (.head _);have G:(k::(a.B++b.B)).Nodup:=l;let⟨l,L⟩:=List.nodup_cons.1 G;let⟨M,N,m⟩:=List.nodup_append.1 L;have u:∀j,j∈a.B->j∈(cQ.aH k a b).B:=λj h=>.tail _ (fc.2 (.inl h));have w:∀j,j∈b.B->j∈(cQ.aH k a b).B:=λj h=>.tail _ (fc.2 (.inr h));have G:=g _ (u _ a.nb);have G:=g _ (w _ b.nb);have n:∀j∈a.B,s.getD j false=false/\j≠k:=λj h=>⟨A j (u j h) λe=>l (fc.2 (.inl (by have e:j=k:=e;rw[<-e];exact h))),λe=>l (fc.2 (.inl (e▸h)))⟩;have o:∀j∈b.B,s.getD j false=false/\j≠k:=λj h=>⟨A j (w j h) λe=>l (fc.2 (.inr (by have e:j=k:=e;rw[<-e];exact h))),λe=>l (fc.2 (.inr (e▸h)))⟩;have L:a.rt≠b.rt:=m _ a.nb _ b.nb;have y:x.l.toNat=a.rt:=by rw[r];omega
   have z:x.r.toNat=b.rt:=by rw[t];omega
   have l:x.ad.toNat=q:=by rw[E];omega
   let⟨G,_⟩:=f.bI;have A:rd x.at'=ec v:=by rw[F];exact G.rd
   have W:(s.set k true).length=tree.length:=by simp[p]
   have W:((s.set k true).set a.rt true).length=tree.length:=by simp[p]
   have O:(((s.set k true).set a.rt true).set b.rt true).length=tree.length:=by simp[p]
   have P:sv tree k cs (s.set k true) x:=by
    refine⟨?_,?_,?_,?_,?_,?_,?_,?_,?_,?_⟩
    ·rw[F];exact G.isNum
    ·rw[A];exact Rat.den_intCast _
    ·rw[E];omega
    ·rw[l];exact f.i
    ·rw[r];omega
    ·rw[r];omega
    ·rw[y,uy,aw (n _ a.nb).2];exact(n _ a.nb).1
    ·rw[t];omega
    ·rw[t];omega
    ·rw[y,z,uy,aw (Ne.symm L),uy,aw (o _ b.nb).2];exact(o _ b.nb).1
   have Q:C.f' cs x.ad.toNat (rd x.at')=h2 cs q (bk (ec v)):=by rw[l,A];exact f.f'
   have R:C.gG cs x.ad.toNat (rd x.at'+1)=ig cs q (bk (ec v+1)):=by rw[l,A];exact f.gG
   have B:∀j,(((s.set k true).set a.rt true).set b.rt true).getD j false=true↔(s.getD j false=true∨j=k∨j=a.rt∨j=b.rt):=λj=>by
    rw[uy,uy,uy];by_cases f:j=b.rt
    ·simp[f]
    ·by_cases b:j=a.rt
     ·simp[b]
     ·by_cases l:j=k
      ·simp[l]
      ·simp[f,b,l]
   have S:∀j∈a.B,j≠a.rt->(((s.set k true).set a.rt true).set b.rt true).getD j false=false:=λj c D=>by
    rw[lz];intro h;rcases(B j).1 h with h | h | h | h
    ·rw[(n j c).1]at h;cases h
    ·exact(n j c).2 h
    ·exact D h
    ·exact m _ c _ b.nb h
   have H:∀{f d},h6 rows tree kL all x.l.toNat (C.f' cs x.ad.toNat (rd x.at')) (((s.set k true).set x.l.toNat true).set x.r.toNat true) f d->f=true/\d.length=tree.length/\∀j,d.getD j false=true↔((((s.set k true).set a.rt true).set b.rt true).getD j false=true∨j∈a.B):=λ{f d} h=>by
    rw[Q,y,z]at h;exact ee.node J M O (λj c=>g j (u j c)) S h
   cases I with
   | leaf _ _ _ _ h _=>rw[i]at h;cases h;omega
   | bad _ _ _ _ _ h _ b=>
     rw[i]at h;cases h;exact absurd P b
   | left _ _ _ _ _ h _ _ b=>
     rw[i]at h;cases h;let⟨e,_⟩:=H b;cases e
   | both _ _ _ d _ _ _ h _ _ T s=>
     rw[i]at h;cases h;let⟨_,U,C⟩:=H T;rw[R,z]at s;have V:∀j∈b.B,j≠b.rt->d.getD j false=false:=λj c D=>by
      rw[lz];intro h;rcases(C j).1 h with h | h
      ·rcases(B j).1 h with h | h | h | h
       ·rw[(o j c).1]at h;cases h
       ·exact(o j c).2 h
       ·exact m _ a.nb _ c h.symm
       ·exact D h
      ·exact m _ h _ c rfl
     let⟨d,e,f⟩:=ee.node K N U (λj c=>g j (w j c)) V s;refine⟨d,e,λj=>?_⟩;rw[f,C,B];show _↔_∨j∈k::(a.B++b.B);rw[hH,fc];constructor
     ·rintro(((h | h | h | h) | h) | h)
      ·exact .inl h
      ·exact .inr (.inl h)
      ·exact .inr (.inr (.inl (h▸a.nb)))
      ·exact .inr (.inr (.inr (h▸b.nb)))
      ·exact .inr (.inr (.inl h))
      ·exact .inr (.inr (.inr h))
     ·rintro(h | h | h | h)
      ·exact .inl (.inl (.inl h))
      ·exact .inl (.inl (.inr (.inl h)))
      ·exact .inl (.inr h)
      ·exact .inr h
theorem ee.VR{t:cQ}{cs:List a1}(h:ee tree (λ_ cs d=>k1 rows kL all cs d=true) t cs)(g:t.rt=0)(i:t.B.Nodup)(e:∀j,j∈t.B↔j<tree.length){b:Bool}{c:List Bool}(f:h6 rows tree kL all 0 cs (List.replicate tree.length false) b c):(b&&!c.contains false)=true:=by
 rw[<-g]at f;let⟨b,_,d⟩:=h.node i σ' (λj a=>(e j).1 a) (λj a _=>by simp[xd];split<;>rfl) f;rw[b,Bool.true_and,ir,lz];intro b;have b:false∈c:=φ b
 let⟨j,a,c⟩:=tp b;have:=(d j).2 (.inr ((e j).2 ω));rw[e5,en a]at this;rw[c]at this;cases this
theorem ee.low{l:ar}:∀{t:cQ} {cs:List a1},ee tree (λ_ cs _=>kB l cs kL all) t cs->kB l cs kL all
 | .ag _,cs,h=>by
   let⟨_,_,_,a⟩:=h;exact a
 | .aH _ _ _,cs,h=>by
   let⟨_,i,v,_,_,_,_,_,_,_,a,c,e,f⟩:=h;have g:=ee.low e;have j:=ee.low f;let⟨k,l⟩:=c.bI;intro y b;have m:=b.w _ a c.i;let⟨n,o⟩:=b.f.c _ a;by_cases d:y i<=ec v
   ·exact g y (Ea a b rfl n λ_=>by show y i<=rd (bk (ec v));rw[k.rd];exact d)
   ·have q:=Px (p:=ec v) (Rat.den_intCast _) m (Rat.not_le.1 d);exact j y (Ea a b rfl (λ_=>by show rd (bk (ec v+1))<=y i;rw[l.rd];exact q) o)
theorem ee.sub{t:cQ}{cs:List a1}{k:Nat}{x:cz}(h:ee tree P t cs)(d:t.rt=k)(e:tree[k]? = some x)(s:0<=x.ad):
 ∃(a b:cQ) (i:Nat) (v:Rat),i<cs.length/\kv (cs.getD i bY) v/\C.f' cs x.ad.toNat (rd x.at')=h2 cs i (bk (ec v))/\C.gG cs x.ad.toNat (rd x.at'+1)=ig cs i (bk (ec v+1))/\(rd x.at'=ec v/\x.at'=bk (ec v))/\rd (bk (rd x.at'+1))=rd x.at'+1/\a.rt=x.l.toNat/\b.rt=x.r.toNat/\ee tree P a (C.f' cs x.ad.toNat (rd x.at'))/\ee tree P b (C.gG cs x.ad.toNat (rd x.at'+1)):=by
 cases t with
 | ag j=>
   obtain⟨_,a,_,_⟩:=h;obtain rfl:j=k:=d;rw[e]at a;cases a;omega
 | aH j a b=>
   obtain⟨_,i,v,f,l,g,m,n,_,_,o,c,p,q⟩:=h;obtain rfl:j=k:=d;rw[e]at f;cases f;obtain⟨d,r⟩:=c.bI;have e:rd x.at'=ec v:=by rw[g];exact d.rd
   have d:x.ad.toNat=i:=by rw[l];omega
   rw[e,d,c.f',c.gG];exact⟨a,b,i,v,o,c,rfl,rfl,⟨rfl,g⟩,r.rd,by rw[m];omega,by rw[n];omega,p,q⟩
theorem ee.at'{t:cQ}{cs:List a1}{k:Nat}{x:cz}(h:ee tree P t cs)(a:t.rt=k)(b:tree[k]? = some x)(e:x.ad<0):P k cs x.d:=by
 cases t with
 | ag j=>
   obtain⟨_,c,_,d⟩:=h;obtain rfl:j=k:=a;rw[b]at c;cases c;exact d
 | aH j _ _=>
   obtain⟨_,_,_,c,_,_⟩:=h;obtain rfl:j=k:=a;rw[b]at c;cases c;omega
end
section
variable{l:ar}{cs:List a1}
structure eU(l:ar)(cs:List a1):Prop where
 len:cs.length=l.a.length
 c:∀i,i<cs.length->(cs.getD i bY).cost=(l.ad i).cost/\(cs.getD i bY).int=(l.ad i).int/\((l.ad i).int=false->(cs.getD i bY).low=(l.ad i).low/\(cs.getD i bY).up=(l.ad i).up)/\((l.ad i).int=true->(isNum (cs.getD i bY).low=true/\isNum (cs.getD i bY).up=true)/\(ku (cs.getD i bY).low/\ku (cs.getD i bY).up)/\rd (l.ad i).low<=rd (cs.getD i bY).low/\rd (cs.getD i bY).up<=rd (l.ad i).up)
noncomputable def de(l:ar)(cs:List a1):ar:=⟨cs.map (eE (cB l)),l.rows⟩
theorem eU.same(h:eU l cs):tT l cs:=⟨h.len,λi a=>⟨(h.c i a).1,(h.c i a).2.1⟩⟩
theorem wH{t:Bool}{i:Nat}(az:i<cs.length):(cs.map (eE t)).getD i bY=eE t (cs.getD i bY):=by
 grind
theorem IX{i:Nat}(az:i<cs.length):(de l cs).ad i=eE (cB l) (cs.getD i bY):=wH az
theorem rO:(de l cs).a.length=cs.length:=by simp[de]
theorem eU.ok(h:eU l cs):kC (db l) (cs.map (eE (cB l))):=by
 refine⟨by simp[p1,h.len],λi a=>?_⟩;have a:i<cs.length:=φ a
 have b:i<l.a.length:=by rw[<-h.len];exact a
 let⟨_,c,d,e⟩:=h.c i a;rw[wH a,wJ b,vY,vY,oB,oC,oB,oC];refine⟨?_,c,d,λa=>(e a).2.1⟩;unfold eE;grind
theorem eU.fM(a:jq (db l))(h:eU l cs):c5 (de l cs):=h.ok.fM a.s
theorem uk{c:a1}:h9 c=true↔isNum c.cost=true/\(c.low=[]∨isNum c.low=true)/\(c.up=[]∨isNum c.up=true)/\(c.low=[]∨c.up=[]∨rd c.low<=rd c.up):=by
 unfold h9;grind
theorem uL{rows:List b9}:(⟨cs,rows⟩:ar).I=true↔cs.length<=100/\rows.length<=440/\(∀c∈cs,h9 c=true)/\∀r∈rows,iM r cs.length=true:=by
 unfold ar.I;grind
theorem Y8:isNum [48]=true:=by rw[<-xa];exact(nx pA).isNum
theorem N6{t:Bool}{c:a1}(h:h9 c=true):h9 (eE t c)=true:=by
 rw[uk]at h|-;rw[oB,oC];refine⟨?_,h.2⟩;unfold eE;split
 ·exact Y8
 ·exact h.1
theorem Qy(h:l.I=true):(db l).I=true:=by
 let⟨a,b,d,e⟩:=(uL (cs:=l.a) (rows:=l.rows)).1 h;refine uL.2 ⟨φ a,b,λc f=>?_,φ e⟩;obtain⟨c,g,rfl⟩:=gl.1 f;exact N6 (d c g)
theorem eU.root(a:nr l)(d:l.I=true)(e:nV l=false):eU l l.a:=by
 refine⟨rfl,λ_ c=>⟨rfl,rfl,λ_=>⟨rfl,rfl⟩,λf=>?_⟩⟩;have b:=cX (ar.kc c);have c:=a.b _ b;have a:=List.any_eq_false.1 e _ b;simp[f]at a;let⟨_,e,f,_⟩:=uk.1 (uJ d b);exact⟨⟨e.resolve_left a.1,f.resolve_left a.2⟩,⟨.short a.1 c.1,.short a.2 c.2⟩,kW,kW⟩
theorem eU.up(h:eU l cs){i:Nat}{v:Rat}(az:i<cs.length)(a:kv (cs.getD i bY) v):eU l (h2 cs i (bk (ec v))):=by
 refine⟨by simp[h2,h.len],λj b=>?_⟩;have c:j<cs.length:=by simpa [h2]using b
 clear b;have b:=c;unfold h2;rw[pX az];by_cases e:j=i
 ·subst e;rw[aL rfl];let⟨d,c,_,f⟩:=h.c j b;have g:(l.ad j).int=true:=c.symm.trans a.i;let⟨⟨i,_⟩,⟨k,_⟩,m,n⟩:=f g;refine⟨d,c,λe=>π,λ_=>⟨⟨i,a.bI.1.isNum⟩,⟨k,O0 a.c0 a.b'⟩,m,?_⟩⟩;show rd (bk (ec v))<=_;rw[a.bI.1.rd];exact Rat.le_trans (Rat.floor_le v) (Rat.le_trans a.az n)
 ·rw[aw e];exact h.c j b
theorem eU.low(h:eU l cs){i:Nat}{v:Rat}(az:i<cs.length)(a:kv (cs.getD i bY) v):eU l (ig cs i (bk (ec v+1))):=by
 refine⟨by simp[ig,h.len],λj b=>?_⟩;have c:j<cs.length:=by simpa [ig]using b
 clear b;have b:=c;unfold ig;rw[pX az];by_cases e:j=i
 ·subst e;rw[aL rfl];let⟨d,c,_,f⟩:=h.c j b;have g:(l.ad j).int=true:=c.symm.trans a.i;let⟨⟨_,i⟩,⟨_,k⟩,m,n⟩:=f g;refine⟨d,c,λe=>π,λ_=>⟨⟨a.bI.2.isNum,i⟩,⟨NX a.c0 a.b' a.d,k⟩,?_,n⟩⟩;show _<=rd (bk (ec v+1));rw[a.bI.2.rd];exact Rat.le_trans m (Rat.le_trans a.ah (iJ (Qm v)))
 ·rw[aw e];exact h.c j b
theorem GP{rows:List b9}{fF:List a1}(b:fF.length=cs.length)(h:∀i,i<cs.length->((fF.getD i bY).low≠[]->(cs.getD i bY).low≠[]/\rd (fF.getD i bY).low<=rd (cs.getD i bY).low)/\((fF.getD i bY).up≠[]->(cs.getD i bY).up≠[]/\rd (cs.getD i bY).up<=rd (fF.getD i bY).up)){x:Nat->Rat}(f:h4 ⟨cs,rows⟩ x):h4 ⟨fF,rows⟩ x:=by
 refine⟨λj a=>?_,λj a=>?_⟩
 ·have a:j<cs.length:=by rw[<-b];exact a
  obtain⟨g,i⟩:=f.c j a;obtain⟨c,d⟩:=h j a;exact⟨λe=>Rat.le_trans (c e).2 (g (c e).1),λe=>Rat.le_trans (i (d e).1) (d e).2⟩
 ·have e:gz (⟨fF,rows⟩:ar) x j=gz (⟨cs,rows⟩:ar) x j:=by
   show aS (λq=>hs ((⟨cs,rows⟩:ar).row j).G q*x q) fF.length=_;rw[b];rfl
  rw[e];exact f.r j a
theorem GQ{x:Nat->Rat}:h4 (de l cs) x↔h4 ⟨cs,l.rows⟩ x:=by
 have a:(cs.map (eE (cB l))).length=cs.length:=σ'
 constructor
 ·exact GP a.symm λ_ b=>by
   rw[wH (φ b),oB,oC];grind
 ·exact GP a λ_ a=>by
   rw[wH a,oB,oC];grind
theorem eU.fits(h:eU l cs){x:Nat->Rat}(f:h4 ⟨cs,l.rows⟩ x):h4 l x:=by
 refine GP (fF:=l.a) h.len.symm (λi a=>?_) f;let⟨_,_,_,b⟩:=h.c i a;show((l.ad i).low≠[]->_/\rd (l.ad i).low<=_)/\((l.ad i).up≠[]->_/\_<=rd (l.ad i).up)
 cases e:(l.ad i).int with
 | false=>
   grind
 | true=>
   let⟨⟨a,c⟩,_,d,f⟩:=b e;exact⟨λ_=>⟨nL a,d⟩,λ_=>⟨nL c,f⟩⟩
theorem eU.Oe(h:eU l cs)(k:l.I=true)(m:(de l cs).I=false):cs.any ju=true:=by
 apply o3;intro b;have b:∀c∈cs,ju c=false:=φ b
 let⟨m,n,o,p⟩:=(uL (cs:=l.a) (rows:=l.rows)).1 k;have:(de l cs).I=true:=by
  refine uL.2 ⟨by simpa [h.len]using m,n,λc q=>?_,λr k=>by simpa [h.len]using p r k⟩;obtain⟨c,e,rfl⟩:=gl.1 q;have a:=b c e;obtain⟨i,f,rfl⟩:=ux (d:=bY) e;refine N6 (uk.2 ?_);let⟨b,_,s,t⟩:=h.c i f;let⟨g,u,v,w⟩:=uk.1 (o _ (cX (ar.kc (aa:=l) (i:=i) (by rw[<-h.len];exact f))));rw[b]
  cases j:(l.ad i).int with
  | false=>
    let⟨b,c⟩:=s j;rw[b,c];exact⟨g,u,v,w⟩
  | true=>
    let⟨⟨b,c⟩,_⟩:=t j;refine⟨g,.inr b,.inr c,.inr (.inr ?_)⟩;unfold ju at a;rw[b,c]at a;simp[Bool.true_and,decide_eq_false_iff_not]at a;exact fy.1 a
 grind
theorem eU.NG(f:jq (db l))(h:eU l cs)(e:(de l cs).I=true){a:cW}(ax:fZ (de l cs) a)(b7:a.st=1){i:Nat}(d:kE (db l).a a.x=some i):i<cs.length/\kv (cs.getD i bY) (bU a.x i):=by
 obtain⟨b,c,k⟩:=Fk d;rw[p1]at b;have a:i<cs.length:=by rw[h.len];exact b
 rw[BK,wJ b,vY]at c;obtain⟨_,l,_,d⟩:=h.c i a;obtain⟨⟨g,j⟩,_,_⟩:=d c;have d:=(ax.ga (h.fM f) e).1;unfold ga at d;rw[aL b7]at d;simp only[bK]at d;obtain⟨m,n⟩:=(uv e d.2.2.2.2.1).c i (by rw[rO];exact a);rw[IX a,oB,oC]at*
 obtain⟨d,o⟩:=JA f.s h.ok e ax b7 (i:=i) (by simpa using a) (by rw[wJ b,vY];exact c);exact⟨a,⟨l.trans c,g,j,m (nL g),n (nL j),k,d,o⟩⟩
def mf(l:ar)(a:Option Rat)(cs:List a1)(d:List (List UInt8)):Prop:=
 ((de l cs).I=false/\d=[])∨((de l cs).I=true/\d=(eo (de l cs)).d/\((eo (de l cs)).st≠1∨∃u,a=some u/\u<=rd (eo (de l cs)).val))
theorem mf.mono{v aQ:Option Rat}{d:List (List UInt8)}(h:mf l v cs d)(a:∀u,v=some u->∃a,aQ=some a/\a<=u):mf l aQ cs d:=by
 rcases h with h | ⟨a,b,_⟩
 ·exact .inl h
 ·refine .inr ⟨a,b,?_⟩;grind
def MR(l:ar)(s:bV)(k:Nat)(cs:List a1)(d:List (List UInt8)):Prop:=eU l cs/\((k,cs.map (eE (cB l)))∈s.todo∨k∉s.todo.map Prod.fst/\mf l s.val cs d)
structure pB(l:ar)(u:Rat)(a:cW):Prop where
 st:a.st=1
 v:a.val=bk u
 r:rd a.val=u
 f:fU (db l) a.x=true
 w:jm (db l) a.x=true
 c:gy (db l) a.x=some u
 d:a.d=[]
 y:a.r=[]
 s:∀s∈a.x,s.length<=10000
 l:a.val.length<=10000
structure ot(l:ar)(s:bV):Prop where
 ex:∃t:cQ,t.rt=0/\t.B.Nodup/\(∀j,j∈t.B↔j<s.tree.length)/\ee s.tree (MR l s) t l.a
 ao:(s.todo.map Prod.fst).Nodup
 ag:∀x∈s.todo,s.tree[x.1]? = some fs
 aK:s.val=none->s.L=⟨2,[],[],[],[]⟩
 c0:∀u,s.val=some u->pB l u s.L
theorem ee.find{a:List cz}{P:Nat->List a1->List (List UInt8)->Prop}{k:Nat}:∀{t:cQ} {cs:List a1},ee a P t cs->k∈t.gQ->∃b x,a[k]? = some x/\P k b x.d
 | .ag j,cs,h,c=>by
   obtain rfl:k=j:=mV.1 c;let⟨x,_,_,_⟩:=h;grind
 | .aH _ _ _,cs,h,c=>by
   let⟨x,_,_,_,_,_,_,_,_,_,_,_,d,e⟩:=h
   rcases fc.1 c with h | h
   ·exact ee.find d h
   ·exact ee.find e h
theorem PF{α β:Type}{L:List (α×β)}(b:(L.map Prod.fst).Nodup){i j:Nat}{x y:α×β}(az:L[i]? = some x)(c:L[j]? = some y)(e:x.1=y.1):i=j:=by
 have a:(L.map Prod.fst)[i]? = some x.1:=by rw[jd,az];rfl
 have d:(L.map Prod.fst)[j]? = some y.1:=by rw[jd,c];rfl
 exact(List.getElem?_inj (hZ.1 a).1 b).1 (by rw[a,d,e])
theorem eU.L(d:jq (db l))(m:l.I=true)(h:eU l cs)(b:(de l cs).I=true){a:cW}(ax:fZ (de l cs) a)(b7:a.st=1)(e:kE (db l).a a.x=none):pB l (rd a.val) ⟨1,a.val,a.x,[],[]⟩:=by
 obtain⟨g,n⟩:=DO (h.fM d) b ax b7;obtain⟨i,o,p⟩:=Tc (h.fM d) b ax b7;have c:=(ax.ga (h.fM d) b).1;unfold ga at c;rw[aL b7]at c;simp only[bK,cP]at c;obtain⟨q,_,d,_,r,_⟩:=c;have j:=Qy m;rw[rO,h.len]at i;have f:dJ (db l) a.x (db l).a.length=true:=by
  unfold dJ;rw[j,o,p1];simpa using i
 have s:=uv b r;obtain⟨v,k⟩:=n0.1 q;rw[k]at d;have d:bk v=a.val:=d;have t:rd a.val=v:=by
  have:=s3 g;rw[<-d]at this|-;exact xb this
 have u:(db l).P (bU a.x)=(de l cs).P (bU a.x):=by
  show aS (λi=>rd ((db l).ad i).cost*bU a.x i) (db l).a.length=aS (λi=>rd ((de l cs).ad i).cost*bU a.x i) (de l cs).a.length;rw[p1,rO,h.len];refine c9 λi b=>?_;have c:i<cs.length:=by rw[h.len];exact b
  have:=(h.ok.c i (by simpa using c)).1;rw[show((de l cs).ad i).cost=((db l).ad i).cost from this]
 refine⟨rfl,(s3 g).symm,rfl,?_,?_,?_,rfl,rfl,p,n⟩
 ·unfold fU;rw[f,Bool.true_and];refine(y4 j).2 ?_;have:=h.fits (GQ.1 s);exact(GQ (cs:=l.a)).2 this
 ·unfold jm;rw[f,Bool.true_and];refine AA.2 λi b=>?_;have c:∀i,i<(db l).a.length->(((db l).a.getD i bY).int&&decide ((bU a.x i).den≠1))=false:=by
   intro i b;unfold kE at e;rw[List.find?_range_eq_none]at e;have:=e i b;rw[ir]at this;exact this
  have:=c i b;rw[BK]at this;grind
 ·unfold gy;show(if dJ (db l) a.x (db l).a.length=true then some ((db l).P (bU a.x)) else none)=some (rd a.val);rw[aL f,u,<-JU k,t]
theorem ot.look(F:jq (db l))(ag:l.I=true){s:bV}(h:ot l s){p:Nat}{x:Nat×List a1}(B:s.todo[p]? = some x):ot l ((s.del p).look (db l) x.1 x.2):=by
 obtain⟨V,W,X,Y,G⟩:=h.ex;obtain⟨k,Q⟩:=x;have P:=cX B;have r:s.tree[k]? = some fs:=h.ag _ P;have Z:k<s.tree.length:=(hZ.1 r).1;have t:fs.ad<0:=by decide
 have aa:=G.leaf r t ((Y k).2 Z);have ah:∀y,y∈s.todo->y.1≠k->y∈(s.del p).todo:=λy b C=>by
  obtain⟨i,d⟩:=u5 b;refine List.mem_eraseIdx_iff_getElem?.2 ⟨i,λe=>C ?_,d⟩;grind
 have M:∀y,y∈(s.del p).todo->y∈s.todo/\y.1≠k:=λy b=>by
  obtain⟨i,C,d⟩:=List.mem_eraseIdx_iff_getElem?.1 b;exact⟨cX d,λe=>C (PF h.ao d B e)⟩
 have C:k∈s.todo.map Prod.fst:=gl.2 ⟨_,P,rfl⟩;have nk:k∉(s.del p).todo.map Prod.fst:=λe=>by
  grind
 have nj:∀j,j∉s.todo.map Prod.fst->j∉(s.del p).todo.map Prod.fst:=λj o e=>by
  grind
 have ai:((s.del p).todo.map Prod.fst).Nodup:=h.ao.sublist ((List.eraseIdx_sublist s.todo p).map Prod.fst);have N:∀cs c,MR l s k cs c->eU l cs/\cs.map (eE (cB l))=Q:=λcs c g=>by
  obtain⟨l,g | ⟨g,_⟩⟩:=g
  ·obtain⟨i,d⟩:=u5 g;have:=PF h.ao d B rfl;rw[this,B]at d;cases d;exact⟨l,rfl⟩
  grind
 obtain⟨f,_,_,ad⟩:=G.find aa;obtain⟨O,rfl⟩:=N _ _ ad;have ab:∀cs,cs.map (eE (cB l))=f.map (eE (cB l))->de l cs=de l f:=λcs e=>by unfold de;rw[e]
 have H:∀(a:bV) (B:cz),a.todo=(s.del p).todo->a.tree[k]? = some B->B.ad<0->a.tree.length=s.tree.length->(∀j,j≠k->∀y,s.tree[j]? = some y->a.tree[j]? = some y)->(∀u,s.val=some u->∃C,a.val=some C/\C<=u)->mf l a.val f B.d->(a.val=none->a.L=⟨2,[],[],[],[]⟩)->(∀u,a.val=some u->pB l u a.L)->ot l a:=λa B P Q e3 _ ad e6 e7 e8 e9=>by
  refine⟨⟨V,W,X,λj=>by grind,G.JQ r t ad (λj cs c o _ g=>?_) (λcs g=>?_)⟩,by grind,λy b=>?_,e8,e9⟩
  ·refine⟨g.1,g.2.imp (λh=>?_) λh=>⟨by rw[P];exact nj j h.1,h.2.mono e6⟩⟩;grind
  ·obtain⟨d,_⟩:=N cs _ g;refine⟨B,Q,e3,d,.inr ⟨by rw[P];exact nk,?_⟩⟩;unfold mf at e7|-;grind
  ·rw[P]at b;obtain⟨d,i⟩:=M y b;exact ad _ i _ (h.ag y d)
 have R:∀u,s.val=some u->∃C,s.val=some C/\C<=u:=λu e=>⟨u,e,kW⟩;have aj:∀c,((s.del p).Z k c).tree[k]? = some ⟨-1,[],0,0,c⟩/\((s.del p).Z k c).tree.length=s.tree.length/\∀j,j≠k->∀y,s.tree[j]? = some y->((s.del p).Z k c).tree[j]? = some y:=λc=>by
  have e:((s.del p).Z k c).tree=s.tree.set k {s.tree.getD k fs with d:=c}:=rfl;have Q:s.tree.getD k fs=fs:=by rw[e5,r];rfl
  rw[e,Q];exact⟨by rw[tk Z];rfl,by simp,λj o y b=>by grind⟩
 show ot l ((s.del p).look (db l) k (f.map (eE (cB l))));unfold bV.look;have B:(⟨f.map (eE (cB l)),(db l).rows⟩:ar)=de l f:=rfl;rw[B];by_cases m:(de l f).I=true
 ·rw[aL m];have S:=pg (O.fM F) m;obtain⟨c,D⟩:∃c,c=(eo (de l f)).d:=⟨_,rfl⟩;obtain⟨I,E,J⟩:=aj c;by_cases w:(eo (de l f)).st=1
  ·rw[aL w,<-D];by_cases d:nB (s.del p).val (rd (eo (de l f)).val)=true
   ·rw[aL d];refine H _ _ rfl I (show(-1:Int)<0 by decide) E J R (.inr ⟨m,D,.inr ?_⟩) h.aK h.c0;have d:nB s.val (rd (eo (de l f)).val)=true:=d;unfold nB at d
    cases e:s.val with
    | none=>grind
    | some u=>
      rw[e]at d;exact⟨u,e,by grind⟩
   ·rw[aw d];have d:nB s.val (rd (eo (de l f)).val)=false:=lz.2 d
    cases x:kE (db l).a (eo (de l f)).x with
    | none=>
      simp only;refine H _ _ rfl I (show(-1:Int)<0 by decide) E J (λu e=>⟨_,rfl,?_⟩) (.inr ⟨m,D,.inr ⟨_,rfl,kW⟩⟩) (λe=>by cases e) λu e=>?_
      ·unfold nB at d;grind
      ·cases e;exact O.L F ag m S w x
    | some i=>
      simp only;obtain⟨K,bv⟩:=O.NG F m S w x;obtain⟨v,hv⟩:∃v,v=bU (eo (de l f)).x i:=⟨_,rfl⟩;rw[<-hv]at bv|-;obtain⟨n,T⟩:∃n,n=s.tree.length:=⟨_,rfl⟩;obtain⟨a,q⟩:∃a,a=((s.del p).Z k c).branch k (f.map (eE (cB l))) i v:=⟨_,rfl⟩;rw[<-q];obtain⟨A,U⟩:∃d,d=((s.del p).Z k c).tree:=⟨_,rfl⟩;rw[<-U]at I E J;have d:A.length=n:=by rw[E,T]
      have u:a.tree=((A++[fs])++[fs]).set k ⟨(i:Int),bk (ec v),(A.length:Int),(A.length:Int)+1,[]⟩:=by rw[q,U];rfl
      have L:a.todo=((s.del p).todo++[(n,h2 (f.map (eE (cB l))) i (bk (ec v)))])++[(n+1,ig (f.map (eE (cB l))) i (bk (ec v+1)))]:=by
       rw[q];show((s.del p).todo++[(((s.del p).Z k c).tree.length,_)])++[((((s.del p).Z k c).tree++[fs]).length,_)]=_;rw[<-U,o4,d];rfl
      have ae:a.val=s.val:=by rw[q];rfl
      have af:a.L=s.L:=by rw[q];rfl
      have ak:a.tree.length=n+2:=by rw[u];simp[d]
      have al:k<n:=by omega
      have g1:a.tree[k]? = some ⟨(i:Int),bk (ec v),(A.length:Int),(A.length:Int)+1,[]⟩:=by rw[u,tk (by grind)]
      have g2:a.tree[n]? = some fs:=by
       rw[u,o2 (by omega),hY (by simp[d]),iq (by omega),d];simp
      have g3:a.tree[n+1]? = some fs:=by
       rw[u,o2 (by omega),iq (by simp[d])];simp[d]
      have g4:∀j,j≠k->∀y,s.tree[j]? = some y->a.tree[j]? = some y:=λj o y b=>by
       grind
      have an:∀y,y∈(s.del p).todo->y∈a.todo:=λy b=>by
       grind
      have ao:∀y,y∈s.todo->y.1<n:=λy b=>by rw[T];exact(hZ.1 (h.ag y b)).1
      have aq:∀{cs:List a1},i<cs.length->(h2 cs i (bk (ec v))).map (eE (cB l))=h2 (cs.map (eE (cB l))) i (bk (ec v)):=λK=>by
       unfold h2;rw[List.map_set,wH K];congr 1;unfold eE;split<;>rfl
      have d:∀{cs:List a1},i<cs.length->(ig cs i (bk (ec v+1))).map (eE (cB l))=ig (cs.map (eE (cB l))) i (bk (ec v+1)):=λK=>by
       unfold ig;rw[List.map_set,wH K];congr 1;unfold eE;split<;>rfl
      have ar:∀j,j∈a.todo.map Prod.fst↔j∈(s.del p).todo.map Prod.fst∨j=n∨j=n+1:=λj=>by
       rw[L];simp
      have a:=cQ.Hg (n:=n) X aa;refine⟨⟨V.jK k n,cQ.Ae.trans W,?_,λj=>?_,?_⟩,?_,λy b=>?_,by rw[ae,af];exact h.aK,by rw[ae,af];exact h.c0⟩
      ·refine a.symm.nodup ?_;grind
      ·rw[a.mem_iff,hH,hH,Y j,ak,T];omega
      ·refine G.split (n:=n) (i:=i) (v:=v) (y:=fs) (z:=fs) r t g4 (λj cs c o _ g=>?_) al g1 rfl rfl (by grind) (by grind) g2 t g3 t λcs g=>?_
       ·refine⟨g.1,g.2.imp (λh=>an _ (ah _ h o)) λh=>⟨λe=>?_,by grind⟩⟩;rcases(ar j).1 e with e | e | e
        ·grind
        ·omega
        ·omega
       ·obtain⟨d,h⟩:=N cs _ g;have g:(de l cs).I=true:=by rw[ab cs h];exact m
        have q:fZ (de l cs) (eo (de l f)):=by rw[ab cs h];exact S
        obtain⟨a,c⟩:=d.NG F g q w x;rw[<-hv]at c;refine⟨a,c,⟨d.up a c,.inl ?_⟩,⟨d.low a c,.inl ?_⟩⟩
        ·rw[L,aq a,h];exact fc.2 (.inl (fc.2 (.inr (mV.2 rfl))))
        grind
      ·rw[L];have f:∀j,j∈(s.del p).todo.map Prod.fst->j<n:=λj o=>by
        obtain⟨y,b,e⟩:=gl.1 o;rw[<-e];exact ao y (M y b).1
       rw[List.map_append,List.map_append,List.nodup_append,List.nodup_append];refine⟨⟨ai,by simp,λa c d x e=>?_⟩,by simp,λa c d x e=>?_⟩
       ·have e:=f a c;have a:d=n:=by simpa using x
        omega
       grind
      ·rw[L]at b
       rcases fc.1 b with b | b
       ·rcases fc.1 b with b | b
        ·obtain⟨a,c⟩:=M y b;exact g4 _ c _ (h.ag y a)
        ·rw[mV.1 b];exact g2
       grind
  ·rw[aw w,<-D];exact H _ _ rfl I (show(-1:Int)<0 by decide) E J R (.inr ⟨m,D,.inl w⟩) h.aK h.c0
 ·rw[aw m];exact H _ fs rfl r t rfl (λ_ _ _ h=>h) R (.inl ⟨by simpa using m,rfl⟩) h.aK h.c0
end
def dt(q:Rat)(k:Nat):Prop:=dP q (bS k)
theorem dt.mul{p q:Rat}{a b c:Nat}(h:dt p a)(g:dt q b)(e:a+b=c):dt (p*q) c:=by
 unfold dt;rw[<-pn e];exact dP.mul h g
theorem abN(k:Nat):bS k+bS k<=bS (k+1):=by
 have h:bS k*bS 1=bS (k+1):=pn rfl;have:bS 1=10:=by rw[fQ]
 grind
theorem dt.add{p q:Rat}{a b c:Nat}(h:dt p a)(g:dt q b)(aI:a<=c)(d:b<=c):dt (p+q) (c+1):=
 (dP.add h g).mono (a8 (Nat.add_le_add (j4 (h:=aI)) (j4 (h:=d))) (abN c))
theorem dt.mono{p:Rat}{a b:Nat}(h:dt p a)(c:a<=b):dt p b:=dP.mono h (j4 (h:=c))
theorem dt.neg{p:Rat}{a:Nat}(h:dt p a):dt (-p) a:=by
 obtain⟨z,rfl,_⟩:=h;exact⟨-z,(Rat.intCast_neg z).symm,π⟩
theorem dt.sub{p q:Rat}{a b c:Nat}(h:dt p a)(g:dt q b)(aI:a<=c)(d:b<=c):dt (p-q) (c+1):=by
 rw[Rat.sub_eq_add_neg];exact h.add g.neg aI d
theorem dt.sum{f:Nat->Rat}{n a:Nat}(b:n<=10)(h:∀i,i<n->dt (f i) a):dt (aS f n) (a+1):=by
 refine(dP.sum h).mono ?_;have e:bS 1*bS a=bS (a+1):=pn ω;have:bS 1=10:=by rw[fQ]
 rw[<-e,this];exact fV _ b
theorem dt.nat{N k:Nat}(h:N<=bS k):dt (N:Rat) k:=⟨(N:Int),(mU _).symm,φ h⟩
theorem dt.den{q:Rat}{a k Q:Nat}(b:bI (bS a) q)(c:q.den∣Q)(d:Q<=bS k):dt (q*(Q:Rat)) (a+k):=by
 unfold dt;rw[<-pn (rfl:a+k=a+k)];exact yT b c d
structure lN(aa:ar):Prop where
 n:aa.a.length<=6
 m:aa.rows.length<=6
 c:∀c∈aa.a,c.low.length<=20/\c.up.length<=20/\c.cost.length<=20
 r:∀r∈aa.rows,r.rhs.length<=30/\r.G.length<=1000/\∀c∈r.G,c.v.length<=20
section
variable{aa:ar}
theorem lN.fM(h:lN aa):c5 aa:=⟨h.n,by have:=h.m;omega,λc a=>by have:=h.c c a;omega,λr b=>⟨(h.r r b).1,by have:=(h.r r b).2.1;omega,λc a=>by have:=(h.r r b).2.2 c a;omega⟩⟩
theorem qs{l:List UInt8}{k:Nat}(h:l.length<=k):bI (bS k) (rd l):=by rw[fQ];exact tv h
theorem Np(k:Nat):bI (bS k) 0:=nx (As k)
theorem lN.ad(h:lN aa)(j:Nat):bI (bS 20) (rd (aa.ad j).low)/\bI (bS 20) (rd (aa.ad j).up)/\bI (bS 20) (rd (aa.ad j).cost):=by
 by_cases a:j<aa.a.length
 ·let⟨b,c,d⟩:=h.c _ (cX (ar.kc a));exact⟨qs b,qs c,qs d⟩
 ·have:aa.ad j=⟨[],[],[],[],false⟩:=by rw[ar.ad,e5,hc ω];rfl
  rw[this];exact⟨qs σ',qs σ',qs σ'⟩
theorem lN.row(h:lN aa)(i:Nat):bI (bS 30) (rd (aa.row i).rhs)/\∀j,bI (bS 20) (aa.j.A i j):=by
 have a:(aa.row i).rhs.length<=30/\∀c∈(aa.row i).G,c.v.length<=20:=by
  by_cases b:i<aa.rows.length
  ·let⟨_,_,_⟩:=h.r _ (cX (ar.rowAt b));grind
  ·have:aa.row i=⟨[],1,[],[],[]⟩:=by rw[ar.row,e5,hc ω];rfl
   grind
 refine⟨qs a.1,λj=>?_⟩
 rcases Dx (l:=(aa.row i).G) (f:=λ_=>0) j with e | ⟨c,b,e⟩
 ·show bI _ (hs _ j);rw[hs,e];exact Np 20
 ·show bI _ (hs _ j);rw[hs,e];exact qs (a.2 c b)
end
structure ld(l:ar)(cs:List a1):Prop extends tT l cs where
 b:∀c∈cs,c.low.length<=20/\c.up.length<=20
theorem ld.set{l:ar}{cs:List a1}(h:ld l cs){i:Nat}{c:a1}(az:i<cs.length)(b7:c.cost=(cs.getD i bY).cost)(cH:c.int=(cs.getD i bY).int)(b:c.low.length<=20)(b:c.up.length<=20):ld l (cs.set i c):=
 ⟨h.totT.set az b7 cH,λd a=>by
  rcases List.mem_or_eq_of_mem_set a with a | rfl
  ·exact h.b d a
  grind⟩
theorem ld.fM{l:ar}{cs:List a1}(a:lN l)(h:ld l cs):lN ⟨cs,l.rows⟩:=by
 refine⟨by show cs.length<=6;rw[h.len];exact a.n,a.m,λ_ b=>?_,a.r⟩;obtain⟨i,c,rfl⟩:=ux (d:=bY) b;have e:=(h.c i c).1;have e:=h.b _ b;have b:=(a.c _ (cX (ar.kc (aa:=l) (i:=i) (by rw[<-h.len];exact c)))).2.2;grind
section
variable{l:ar}{cs:List a1}
theorem h6.ex{rows:List b9}{a:List cz}{c:Rat}{all:Bool}{k:Nat}{s d:List Bool}{b:Bool}(h:h6 rows a c all k cs s b d):∃x,a[k]? = some x:=by
 cases h<;>exact⟨_,by assumption⟩
theorem zI(a:cB l=false):de l cs=⟨cs,l.rows⟩:=by
 unfold de;have:cs.map (eE (cB l))=cs:=by
  rw[a];have:eE false=id:=by funext c;rfl
  rw[this,List.map_id]
 rw[this]
theorem QU(a:jq (db l))(h:eU l cs)(b:(de l cs).I=true):(eo (de l cs)).st=1∨(eo (de l cs)).st=2∨(eo (de l cs)).st=3:=by
 have c:=pg (h.fM a) b;have d:=(c.ga (h.fM a) b).1;unfold ga at d;grind
theorem QT(d:jq (db l))(e:c5 l)(f:l.I=true)(h:eU l cs)(g:(de l cs).I=true):(eo (de l cs)).st≠3:=by
 intro _;have k:=pg (h.fM d) g;obtain⟨_,m⟩:=F8 (k.ga (h.fM d) g).1
 rcases m with⟨x,y,b,s,_⟩ | ⟨y,b,s,_⟩ | ⟨x,r,s,Ck,rq,_⟩
 ·grind
 ·grind
 cases a:cB l with
 | true=>
   have b:(de l cs).P r=0:=by
    refine ng λi b=>?_;have b:i<cs.length:=by rw[<-rO (l:=l)];exact b
    rw[IX b,a];show rd [48]*_=0;have:rd [48]=0:=by rw[<-xa];exact(nx pA).rd
    rw[this,zX]
   have:=rq.n;grind
 | false=>
   rw[zI a]at Ck rq;have n:=h.fits Ck;have o:om l r:=by
    refine⟨λj g=>?_,λi p=>?_,?_⟩
    ·have d:j<cs.length:=by rw[h.len];exact g
     obtain⟨b,c⟩:=rq.c j d;obtain⟨_,_,_,q⟩:=h.c j d;have b:(cs.getD j bY).low≠[]->0<=r j:=b;have c:(cs.getD j bY).up≠[]->r j<=0:=c
     cases s:(l.ad j).int with
     | false=>
       grind
     | true=>
       obtain⟨⟨d,g⟩,_⟩:=q s;exact⟨λ_=>b (nL d),λ_=>c (nL g)⟩
    ·have b:gz l r i=gz (⟨cs,l.rows⟩:ar) r i:=by
      show aS (λq=>hs (l.row i).G q*r q) l.a.length=aS (λq=>hs ((⟨cs,l.rows⟩:ar).row i).G q*r q) cs.length;rw[h.len];rfl
     rw[b];exact rq.r i p
    ·have:=rq.n;rwa [SQ h.same]at this
   have b:=pg e f;obtain⟨_,t⟩:=F8 (b.ga e f).1
   rcases t with⟨xT,LM,cC,jJ,_,Fi,_⟩ | ⟨LM,cC,jJ,Fi,oJ,_⟩ | ⟨xT,bG,jJ,_⟩
   ·exact wS o Fi
   ·have:=Az n Fi;grind
   ·unfold cB at a;grind
theorem NB(h:eU l cs)(g:l.I=true)(c:(de l cs).I=true){d:List (List UInt8)}:eX ⟨cs,l.rows⟩ d false=eX (de l cs) d false:=by
 have e:(⟨cs,l.rows⟩:ar).I=true:=by
  let⟨j,k,m,n⟩:=uL.1 c;let⟨_,_,o,_⟩:=(uL (cs:=l.a) (rows:=l.rows)).1 g;refine uL.2 ⟨φ j,k,λ_ a=>?_,φ n⟩;have:=uk.1 (m _ (List.mem_map_of_mem a));rw[oB,oC]at this;obtain⟨i,f,rfl⟩:=ux (d:=bY) a;have a:=(uk.1 (o _ (cX (ar.kc (aa:=l) (i:=i) (by rw[<-h.len];exact f))))).1;exact uk.2 ⟨by rw[(h.c i f).1];exact a,this.2⟩
 have p:∀b,lJ (⟨cs,l.rows⟩:ar) false (bU d) b↔lJ (de l cs) false (bU d) b:=λb=>by
  have g:∀j,gb (⟨cs,l.rows⟩:ar) false (bU d) j=gb (de l cs) false (bU d) j:=λj=>rfl;have f:∀j,j<cs.length->((de l cs).ad j).low=((⟨cs,l.rows⟩:ar).ad j).low/\((de l cs).ad j).up=((⟨cs,l.rows⟩:ar).ad j).up:=λj a=>by
   rw[IX a,oB,oC];exact⟨rfl,rfl⟩
  constructor
  ·rintro⟨d,_,g⟩;refine⟨d,λj a=>?_,?_⟩
   ·have a:j<cs.length:=by rw[<-rO (l:=l)];exact a
    grind
   ·rw[g];congr 1;show aS _ cs.length=aS _ (de l cs).a.length;rw[rO];exact c9 λj a=>π
  ·rintro⟨d,g,h⟩;refine⟨d,λj a=>?_,?_⟩
   ·have a:j<cs.length:=a;rw[<-(f j a).1,<-(f j a).2];exact g j (by rw[rO];exact a)
   ·rw[h];congr 1;show aS _ (de l cs).a.length=aS _ cs.length;rw[rO];exact c9 λj a=>π
 have a:dJ (⟨cs,l.rows⟩:ar) d l.rows.length=dJ (de l cs) d l.rows.length:=by
  unfold dJ;rw[e,c]
 unfold eX;show(if dJ (⟨cs,l.rows⟩:ar) d l.rows.length=true then _ else none)=(if dJ (de l cs) d l.rows.length=true then _ else none);rw[a];split
 ·apply Option.ext;intro b;rw[yu e,yu c];exact p b
 ·rfl
theorem mf.shown(c:jq (db l))(j:c5 l)(f:l.I=true){g:Option Rat}{d:List (List UInt8)}(h:eU l cs)(k:mf l g cs d){i:Rat}{all:Bool}(b:g=none∨g=some i/\cB l=false/\all=false):k1 l.rows i all cs d=true:=by
 unfold k1
 rcases k with⟨fw,_⟩ | ⟨fw,rfl,cD⟩
 ·rw[h.Oe f fw];rfl
 ·have g:=pg (h.fM c) fw;have a:=(g.ga (h.fM c) fw).1
  rcases QU c h fw with s | s | s
  ·rcases cD with cD | ⟨_,e,h⟩
   ·exact absurd s cD
   rcases b with b | ⟨b,d,rfl⟩
   ·rw[b]at e;cases e
   rw[b]at e;cases e;rw[zI d]at a h|-;unfold ga at a;rw[aL (by rw[zI d]at s;exact s)]at a;grind
  ·unfold ga at a;rw[aw (by omega),aL s]at a;simp only[bK,cP]at a;obtain⟨b,d,_⟩:=a;rw[NB h f fw,b,hd d];simp
  ·exact absurd s (QT c j f h fw)
theorem mf.low(b:jq (db l))(j:c5 l)(e:l.I=true){c:Option Rat}{d:List (List UInt8)}(h:eU l cs)(k:mf l c cs d){f:Rat}{all:Bool}(m:(∃u,c=some u)->cB l=false)(g:k1 l.rows f all cs d=true):kB l cs f all:=by
 rcases k with⟨fw,_⟩ | ⟨fw,rfl,cD⟩
 ·exact Of (h.Oe e fw)
 ·have i:=pg (h.fM b) fw;have a:=(i.ga (h.fM b) fw).1
  rcases QU b h fw with s | s | s
  ·rcases cD with cD | ⟨u,c,_⟩
   ·grind
   have f:=m ⟨u,c⟩;have d:=(DO (h.fM b) fw i s).1;rw[zI f]at a s d g;refine Qc h.same (λf i=>?_) g;unfold ga at a;rw[aL s]at a;simp only[bK,cP]at a;obtain⟨_,_,_,c,_⟩:=a;rw[i]at c;have c:bk f=_:=c;rw[<-c]at d;exact xb (s3 d)
  ·unfold ga at a;rw[aw (by omega),aL s]at a;simp only[bK,cP]at a;obtain⟨c,d,_⟩:=a;rw[<-NB h e fw]at c d;exact QV c d
  ·exact absurd s (QT b j e h fw)
theorem ot.run(c:jq (db l))(d:l.I=true){deep:Bool}{m:Nat}{s a:bV}{b:Bool}(h:hz (db l) deep m s a b):ot l s->b=true->ot l a/\a.todo=[]/\a.tree.length<=m:=by
 induction h with
 | done s _=>grind
 | jj s _ _=>grind
 | step s _ _ _ b _ _ ih=>intro h a;exact ih (h.look c d b) a
theorem ot.start(b:nr l)(c:l.I=true)(d:nV l=false):ot l (py.U (db l).a):=by
 refine⟨⟨.ag 0,rfl,by simp[cQ.B],λ_=>?_,⟨fs,rfl,δ,.root b c d,.inl ?_⟩⟩,?_,λ_ a=>?_,λ_=>rfl,λ_ e=>by cases e⟩
 ·simp[cQ.B,bV.U,py]
 ·simp[bV.U,py,db]
 ·simp[bV.U,py]
 ·simp[bV.U,py]at a;subst a;rfl
structure x2(l:ar)(iN:bV):Prop where
 ex:∃t:cQ,t.rt=0/\t.B.Nodup/\(∀j,j∈t.B↔j<iN.tree.length)/\ee iN.tree (λ_ cs d=>eU l cs/\mf l iN.val cs d) t l.a
 n:iN.tree.length<=300
 aK:iN.val=none->iN.L=⟨2,[],[],[],[]⟩
 c0:∀u,iN.val=some u->pB l u iN.L
theorem sV(b:nr l)(c:l.I=true)(d:nV l=false){deep:Bool}{k:Int}{e:bV}(h:hz (db l) deep (lo k) (py.U (db l).a) e true):x2 l e:=by
 let⟨⟨⟨t,f,g,i,j⟩,_,_,l,m⟩,_,n⟩:=ot.run (b.ok d) c h (.start b c d) rfl;refine⟨⟨t,f,g,i,j.imp λk cs _ a=>⟨a.1,?_⟩⟩,a8 n QD,l,m⟩
 rcases a.2 with a | a
 ·grind
 ·exact a.2
theorem pB.fit(b:l.I=true){u:Rat}{a:cW}(h:pB l u a):pK l.rows l.a (bU a.x)/\fU l a.x=true/\jm l a.x=true:=by
 have c:=Qy b;have d:=(GQ (cs:=l.a)).1 (uv c h.f);have f:∀i,i<l.a.length->(l.ad i).int=true->(bU a.x i).den=1:=λi c e=>JX h.w i (by rw[p1];exact c) (by rw[wJ c,vY];exact e);have e:dJ l a.x l.a.length=true:=by
  have:=h.f;unfold fU at this;rw[bK]at this;let⟨a,g⟩:=CM this.1;unfold dJ;rw[g,b];rw[p1]at a;simpa using a
 refine⟨⟨d,f⟩,?_,?_⟩
 ·unfold fU;rw[e,Bool.true_and];exact(y4 b).2 d
 ·unfold jm;rw[e,Bool.true_and];refine AA.2 λi c=>?_;grind
theorem pB.cost(b:cB l=false){u:Rat}{a:cW}(h:pB l u a):l.P (bU a.x)=u/\gy l a.x=some u:=by
 have e:db l=l:=zI (cs:=l.a) b;have a:=h.c;rw[e]at a;exact⟨(JU a).symm,a⟩
end
section
variable{l:ar}{deep:Bool}{k:Int}{b:cW}{u:List cz}{e:Int}
theorem x2.low{a:bV}(b:jq (db l))(c:c5 l)(d:l.I=true)(h:x2 l a){e:Rat}{all:Bool}(f:(∃u,a.val=some u)->C.cB l=false)(g:a.val=none∨a.val=some e/\C.cB l=false/\all=false):kB l l.a e all:=by
 obtain⟨_,_,_,_,a⟩:=h.ex;exact(a.imp λk _ _ a=>a.2.low b c d a.1 f (a.2.shown b c d a.1 g)).low
theorem iy.Qb(a:nr l)(h:iy l deep k b u e)(f:e=0)(m:b.st≠4):oe l b:=by
 cases h with
 | form _=>cases f
 | wide _ _=>cases f
 | jj _ _ _ _=>grind
 | cB e b g j c d=>
   have E:=sV a b g j
   cases h:e.val with
   | none=>rw[E.aK h]at d;cases d
   | some q=>
     let⟨k,_,_⟩:=(E.c0 q h).fit b;have d:=pg a.s b;let⟨_,_⟩:=F8 (d.ga a.s b).1;have f:(eo l).st=3:=by unfold C.cB at c;simpa using c
     have c:=(d.ga a.s b).1;unfold ga at c;rw[aw ω,aw ω,aL f]at c;simp at c;have d:=c.2.1;unfold iL at d;rw[bK]at d;have i:=(z7 b).1 d.2;refine .cB (bU e.L.x) (bU (eo l).r) rfl rfl k i λc d e=>?_;have f:=eU.root a b g;let⟨⟨b,g⟩,_⟩:=(f.c c d).2.2.2 e;let⟨e,f⟩:=i.c c d;have c:=e (nL b);have b:=f (nL g);grind
 | done g b h j k=>
   have E:=sV a b h j;have i:=a.ok h
   cases c:g.val with
   | none=>
     have d:=E.aK c;rw[d];exact .inf rfl rfl (E.low i a.s b (λ⟨u,e⟩=>π) (.inl c))
   | some q=>
     have B:=E.c0 q c;have d:C.cB l=false:=by
      cases e:C.cB l with
      | false=>rfl
      | true=>exact absurd ⟨e,B.st⟩ k
     let⟨h,_,_⟩:=B.fit b;let⟨f,_⟩:=B.cost d;refine .opt (bU g.L.x) B.st h (by rw[f];exact B.v) ?_;rw[f];exact E.low i a.s b (λ_=>d) (.inr ⟨c,d,rfl⟩)
theorem iy.taken(d:nr l)(h:iy l deep k b u e)(j:e=0)(t:b.st≠4){c:Bool}(f:iU l b u c):c=true:=by
 cases h with
 | form _=>cases j
 | wide _ _=>cases j
 | jj _ _ _ _=>grind
 | cB k a e m c g=>
   have E:=sV d a e m
   cases h:k.val with
   | none=>rw[E.aK h]at g;cases g
   | some q=>
     let⟨_,_,_⟩:=(E.c0 q h).fit a;have g:=pg d.s a;have j:(eo l).st=3:=by unfold C.cB at c;simpa using c
     have c:=(g.ga d.s a).1;unfold ga at c;rw[aw ω,aw ω,aL j]at c;simp at c;have g:=c.2.1;have c:=g;unfold iL at c;rw[bK]at c;have n:=(z7 a).1 c.2;let⟨_,o⟩:=CM c.1;have b:oM l (eo l).r=true:=by
      unfold oM;rw[eA];intro i b;have b:=o6.1 b
      cases p:(l.ad i).int with
      | false=>rfl
      | true=>
        have c:=eU.root d a e;let⟨⟨a,e⟩,_⟩:=(c.c i b).2.2.2 p;let⟨c,g⟩:=n.c i b;have b:=c (nL a);have a:=g (nL e);have a:bU (eo l).r i=0:=π
        have b:i<(eo l).r.length:=ω
        have c:isNum ((eo l).r.getD i [])=true:=by
         rw[e5,en b];exact(eA.1 o) _ (tn b)
        have b:=s3 c;have a:rd ((eo l).r.getD i [])=0:=a;rw[a,xa]at b;rw[<-b];simp
     unfold iU at f;grind
 | done a b i p q=>
   have E:=sV d b i p;have r:=d.ok i;let⟨t,n,s,o,u⟩:=E.ex;have g:0<a.tree.length:=(o 0).1 (by rw[<-n];exact t.nb);have i:=E.n;have v:∀{i:List UInt8} {j:Bool} {c:Bool},(isNum i=true∨j=true)->(a.val=none∨a.val=some (rd i)/\C.cB l=false/\j=false)->j5 l a.tree i j c->c=true:=λ{i j c} i w h=>by
    unfold j5 at h;rw[aL ⟨b,g,ω,i⟩]at h;obtain⟨_,_,e,rfl⟩:=h;exact(u.imp λk _ _ c=>c.2.shown r d.s b c.1 w).VR n s o e
   cases m:a.val with
   | none=>
     have c:=E.aK m;unfold iU at f;grind
   | some d=>
     have B:=E.c0 d m;have c:C.cB l=false:=by
      cases e:C.cB l with
      | false=>rfl
      | true=>exact absurd ⟨e,B.st⟩ q
     let⟨_,k,x⟩:=B.fit b;let⟨_,h⟩:=B.cost c;have y:isNum a.L.val=true:=by
      cases e:isNum a.L.val with
      | true=>rfl
      | false=>
        have d:=e;rw[B.v]at e;have g:=Ja d;rw[B.r]at g;rw[g,(nx pA).isNum]at e;cases e
     unfold iU at f;rw[aL ⟨b,rfl⟩]at f;have b:a.L.st=1:=B.st;rw[aL b,aL ⟨by rw[h];rfl,by rw[h];exact B.v.symm,k,x,rfl⟩]at f;exact v (.inl y) (.inr ⟨by rw[m,B.r],c,rfl⟩) f
end
end Go.Dam.C
namespace Go.Dam.C
open Go Go.Dam
variable{X:aA}{pm cu:Perm}{H ab bX ai:ae}{n:Nat}
section
variable{l:ar}{a b:cW}{deep:Bool}{k:Int}{u:List cz}{e:Int}
theorem FE(h:ga l a=true)(b7:a.st=1):h4 l (bU a.x)/\a.val=bk (l.P (bU a.x))/\(∀x,h4 l x->l.P (bU a.x)<=l.P x)/\∀r,¬om l r:=by
 have d:=(F8 h).1;unfold ga at h;rw[aL b7]at h;simp only[bK,cP]at h;obtain⟨f,g,b,c,i,_⟩:=h;obtain⟨v,e⟩:=n0.1 f;obtain⟨w,f⟩:=n0.1 g;rw[e]at b;rw[f]at c;have j:v=w:=xb (b.trans c.symm);have g:v=l.P (bU a.x):=JU e;have c:=vQ d f;rw[<-j,g]at c;refine⟨uv d i,by rw[<-g];exact b.symm,λx b=>?_,λr d=>wS d c⟩;have:=Az b c;simpa using this
theorem iy.Iq(d:nr l)(h:iy l deep k b u e)(a:e=0)(b7:b.st=1):isNum b.val=true:=by
 cases h with
 | form _=>cases a
 | wide _ _=>cases a
 | jj _ _ _ _=>cases b7
 | cB _ _ _ _ _ _=>cases b7
 | done b f g h _=>
   have E:=sV d f g h
   cases c:b.val with
   | none=>
     have a:=E.aK c;rw[a]at b7;cases b7
   | some q=>
     have B:=E.c0 q c
     cases e:isNum b.L.val with
     | true=>rfl
     | false=>
       have b:=e;rw[B.v]at e;have a:=Ja b;rw[B.r]at a;rw[a,(nx pA).isNum]at e;cases e
theorem iy.closed(h:iy l deep k b u e)(a:e=0):nV l=false:=by
 cases h with
 | form _=>cases a
 | wide _ _=>cases a
 | jj _ _ b _=>exact b
 | cB _ _ b _ _ _=>exact b
 | done _ _ b _ _=>exact b
theorem Ib(ax:ga l a=true)(c:oe l b)(k:nV l=false):
 (a.st=2->b.st=2)/\(a.st=3->b.st≠1)/\(a.st=1->(jm l a.x=true->b.st=1/\b.val=a.val)/\(b.st=2∨b.st=1/\∃q,b.val=bk q/\l.P (bU a.x)<=q)):=by
 have g:=(F8 ax).2;have h:∀{x y:Nat->Rat} {e:Rat},h4 l x->lJ l false y e->0<e->False:=λf d m=>by
  have:=Az f d;simp only[kl,if_false]at this;exact fy.2 this m
 refine⟨λ_=>?_,λ_=>?_,λn=>?_⟩
 ·rcases g with⟨_,_,_,s,_⟩ | ⟨y,e,_,d,dN,_⟩ | ⟨_,_,s,_⟩
  ·omega
  ·rcases c with⟨x,_,f,_⟩ | ⟨s,_⟩ | ⟨x,r,_,_,f,_⟩
   ·exact(h f.f d dN).elim
   ·exact s
   ·exact(h f.f d dN).elim
  ·omega
 ·rcases g with⟨_,_,_,s,_⟩ | ⟨_,_,s,_⟩ | ⟨x,r,_,f,Ji,_⟩
  ·omega
  ·omega
  ·rcases c with⟨xT,s,ic,v,ah⟩ | ⟨s,_⟩ | ⟨_,_,s,_⟩
   ·refine(oe.wS ic Ji (λi a b=>?_) ah).elim;have dN:=List.any_eq_false.1 k _ (cX (ar.kc a));simp[b]at dN;obtain⟨b,d⟩:=Ji.c i a;have a:=b dN.1;have a:=d dN.2;grind
   ·omega
   ·omega
 ·obtain⟨d,o,b,i⟩:=FE ax n;refine⟨λe=>?_,?_⟩
  ·have j:pK l.rows l.a (bU a.x):=⟨d,JX e⟩
   rcases c with⟨x,s,f,v,ah⟩ | ⟨s,_,ah⟩ | ⟨x,r,s,_,f,Ji,_⟩
   ·refine⟨s,?_⟩;have d:=(ah _ j).2;have d:=b _ f.f;have d:l.P (bU a.x)<=l.P x:=d;have:l.P x=l.P (bU a.x):=by grind
    rw[v,o,this]
   ·cases (ah _ j).1
   ·exact(i r Ji).elim
  ·rcases c with⟨x,s,f,v,ah⟩ | ⟨s,_,ah⟩ | ⟨x,r,s,_,f,Ji,_⟩
   ·exact .inr ⟨s,_,v,b _ f.f⟩
   ·exact .inl s
   ·exact(i r Ji).elim
end
theorem Hs(aa:ar):nr aa.cut:=by
 refine⟨aa.Oj,λc a=>?_,λi b=>?_⟩
 ·obtain⟨c,_,rfl⟩:=gl.1 a;simp only[a1.cut,l6];omega
 ·obtain⟨_,_,e⟩:=gl.1 (cX (ar.rowAt b):aa.cut.row i∈(aa.rows.take 6).map b9.cut);rw[<-e];simp only[b9.cut,rU,l6];omega
structure FD(X:aA):Prop extends yV X where
 uN:Has X F.uN C.uN
theorem GJ(d:FD X)(g:bl pm H){v:Value}{aa:ar}(ah:sB H v aa):
 Call X pm F.uN [v] H λr ab=>K pm H ab/\r=.bool true:=by
 refine Call.W d.uN rfl λaM hQ=>?_;have U:=ah.aa;obtain⟨_,_,rfl,hc,hr⟩:=U;obtain⟨M,N,rfl,_⟩:=hc.at;obtain⟨O,P,rfl,_⟩:=hr.at;obtain⟨o,Q⟩:∃b,b=H.next:=⟨_,rfl⟩;obtain⟨k,G⟩:∃k,k=H.new (.cells [.slice M aa.a.length N,.slice O aa.rows.length P] (.t T.yD)):=⟨_,rfl⟩;have R:K pm H k:=by rw[G];exact K.new g _
 have S:=R.h;have ai:k.get o=some (.cells [.slice M aa.a.length N,.slice O aa.rows.length P] (.t T.yD)):=by rw[G,Q];exact cc
 have U:k.next=o+1:=by rw[G,Q];rfl
 have aN:pm.may o=true:=g.may (by omega);have e:∀U ab,K pm H ab->aF 2 U=some (.bool true)->aM .ret U ab:=λU ab U l2=>hQ _ _ _ (by simp[l2];exact U);simp[g.pick,g.make,ptr,<-Q,<-G,-Fm,-D5];refine al.of (aq:=[]) (Ve d.tosw S.q) ?_;rintro _ k ⟨rfl,rfl⟩;simp[ai,bB,bA,-E5,-D4];refine al.of (aq:=[.agg #[.slice M aa.a.length N,.slice O aa.rows.length P]]) (T9 d.tosw pm _ S _ aa (ah.ext (R.ext g))) ?_;rintro _ H2 ⟨V,p⟩;have g2:=V.h;have aj:=V.some S ai;obtain⟨_,_,rfl,an,ao,aO,aP⟩:=p;obtain⟨f,h,rfl,_⟩:=an.at;obtain⟨i,j,rfl,_⟩:=ao.rows.at;obtain⟨q,t⟩:∃A,A=H2.put o (.cells [.slice f aa.cut.a.length h,.slice i aa.cut.rows.length j] (.t T.yD)):=⟨_,rfl⟩;have G:aC pm H.next H2 q:=by rw[t];exact aC.put (.refl g2) (by omega) aj (by simp) _
 have W:K pm H q:=aC.trans (K.trans R V) G;have w:=W.h;have Y:q.get o=some (.cells [.slice f aa.cut.a.length h,.slice i aa.cut.rows.length j] (.t T.yD)):=by rw[t];exact bO
 have ar:mh q k.next (.agg #[.slice f aa.cut.a.length h,.slice i aa.cut.rows.length j]) aa.cut:=by
  rw[t];exact mh.put ⟨_,_,rfl,an,ao,aO,aP⟩ (by omega) _
 have y:gD q 0 (.agg #[.slice f aa.cut.a.length h,.slice i aa.cut.rows.length j]) aa.cut:=gD.mono ar.e (Nat.zero_le _);have z:=Hs aa;have m:=aa.Oj;obtain⟨l,hl⟩:∃l,l=aa.cut:=⟨_,rfl⟩;rw[<-hl]at t Y ar y z m;simp[aj,setCells,aN,<-hl,<-t,Y,bB,bA,-EW,-DX];refine al.of (aq:=[.agg #[.slice f l.a.length h,.slice i l.rows.length j]]) (MZ d.tofC w m.ok y.aa (λB=>Jo m B)) ?_;rintro _ n ⟨I,C⟩;have c:=I.h;have s0:=I.some w Y;obtain⟨D,E⟩:∃k,k=n.next:=⟨_,rfl⟩;have au:pm.may D=true:=c.may (by omega);have av:∀x,(n.new x).get D=some x:=λx=>by rw[E];exact cc
 rcases C with⟨B,rfl⟩ | ⟨B,a,u,rfl,hu,ax⟩
 ·obtain⟨L,v⟩:∃A,A=(n.new (.cells [.int .i64 0,.string ⟨#[]⟩,.slice none 0 0,.slice none 0 0,.slice none 0 0] (.t T.w0))).put D (.cells [.int .i64 0,.string ⟨#[]⟩,.slice none 0 0,.slice none 0 0,.slice none 0 0] (.t T.w0)):=⟨_,rfl⟩;have k:K pm n L:=by rw[v,E];exact gh c _ _
  have o:=k.h;have F:=K.trans I k;have q:=k.some c s0;simp[c.pick,c.make,ptr,bA,<-E,av,au,<-v,setCells,q,bB,-yF,-yE];refine al.of (aq:=[.agg #[.slice f l.a.length h,.slice i l.rows.length j],.bool false,.int .i64 0]) (YZ d.tonw o z (y.ext (F.ext w)) (by omega) (by omega)) ?_;rintro _ g ⟨H,_,_,_,a,_,_,rfl,X,_,_,_⟩;have r:=H.h;obtain⟨_,_,_,rfl,k,o,q⟩:=X;obtain⟨Z,aa,f1,_⟩:=k.1.ex;obtain⟨ab,ad,p,_⟩:=o.1.ex;obtain⟨ae,af,f3,_⟩:=q.1.ex;subst f1 p f3;obtain⟨s,u⟩:∃b,b=g.next:=⟨_,rfl⟩;have ag:pm.may s=true:=r.may (by omega);have aw:∀x,(g.new x).get s=some x:=λx=>by rw[u];exact cc
  obtain⟨Ba,J⟩:∃A,A=(g.new (.cells [.int .i64 0,.string ⟨#[]⟩,.slice none 0 0,.slice none 0 0,.slice none 0 0] (.t T.w1))).put s (.cells [.int .i64 a.st,ak a.val,.slice Z a.x.length aa,.slice ab a.d.length ad,.slice ae a.r.length af] (.t T.w1)):=⟨_,rfl⟩;have a:K pm g Ba:=by rw[J,u];exact gh r _ _
  simp[r.pick,r.make,ptr,bA,<-u,aw,ag,<-J,setCells,aR];exact e _ _ (K.trans W (K.trans F (K.trans H a))) (by simp)
 ·obtain⟨_,_,_,rfl,aw,k,o⟩:=id hu;obtain⟨X,Z,e1,_⟩:=aw.1.ex;obtain⟨ay,az,e2,_⟩:=k.1.ex;obtain⟨aA,aB,e3,_⟩:=o.1.ex;subst e1 e2 e3;obtain⟨H5,aa⟩:∃A,A=(n.new (.cells [.int .i64 0,.string ⟨#[]⟩,.slice none 0 0,.slice none 0 0,.slice none 0 0] (.t T.w0))).put D (.cells [.int .i64 a.st,ak a.val,.slice X a.x.length Z,.slice ay a.d.length az,.slice aA a.r.length aB] (.t T.w0)):=⟨_,rfl⟩;have k:K pm n H5:=by rw[aa,E];exact gh c _ _
  have v:=k.h;have aC:=K.trans I k;have t0:=k.some c s0;have t4:H5.get D=some (.cells [.int .i64 a.st,ak a.val,.slice X a.x.length Z,.slice ay a.d.length az,.slice aA a.r.length aB] (.t T.w0)):=by rw[aa];exact bO
  have aQ:=aw.1.ext (k.ext c);simp[c.pick,c.make,ptr,bA,<-E,av,au,<-aa,setCells,t0,bB,-yF,-yE];refine al.of (aq:=[.agg #[.slice f l.a.length h,.slice i l.rows.length j],.bool false,.int .i64 0]) (YZ d.tonw v z (y.ext (aC.ext w)) (by omega) (by omega)) ?_;rintro _ F ⟨ca,_,_,_,b,_,ea,rfl,ia,_,_,sa⟩;have H:=ca.h;obtain⟨_,_,_,rfl,c,k,n⟩:=ia;obtain⟨aD,aE,f1,_⟩:=c.1.ex;obtain⟨aF,aG,p,_⟩:=k.1.ex;obtain⟨aH,aI,f3,_⟩:=n.1.ex;subst f1 p f3;obtain⟨J,ab⟩:∃b,b=F.next:=⟨_,rfl⟩;have aS:pm.may J=true:=H.may (by omega);have aT:∀x,(F.new x).get J=some x:=λx=>by rw[ab];exact cc
  obtain⟨Ba,ad⟩:∃A,A=(F.new (.cells [.int .i64 0,.string ⟨#[]⟩,.slice none 0 0,.slice none 0 0,.slice none 0 0] (.t T.w1))).put J (.cells [.int .i64 b.st,ak b.val,.slice aD b.x.length aE,.slice aF b.d.length aG,.slice aH b.r.length aI] (.t T.w1)):=⟨_,rfl⟩;have c:K pm F Ba:=by rw[ad,ab];exact gh H _ _
  have ae:=c.h;have g:Ba.get J=some (.cells [.int .i64 b.st,ak b.val,.slice aD b.x.length aE,.slice aF b.d.length aG,.slice aH b.r.length aI] (.t T.w1)):=by rw[ad];exact bO
  have L:=K.trans ca c;have aJ:=K.trans aC L;have r:=K.trans W aJ;have o4:=L.some v t4;have o0:=L.some v t0;obtain⟨af,aU⟩:=fZ.ga m B ax;simp[H.pick,H.make,ptr,bA,<-ab,aT,aS,<-ad,setCells,-w2];by_cases u:ea=0
  ·have c:(ea==0)=true:=by simpa using u
   by_cases C:b.st=4
   ·have a:(b.st==4)=true:=by simpa using C
    simp[c,g,a,-w2];exact e _ _ r (by simp)
   ·have k:(b.st==4)=false:=by simpa using C
    have n:=iy.Qb z sa u C;obtain⟨o,p,w1⟩:=Ib af n (sa.closed u);simp[c,g,k,o4,-EJ];by_cases T:a.st=2
    ·simp[T,g,o T];exact e _ _ r (by simp)
    ·by_cases a3:a.st=3
     ·have a:¬b.st=1:=p a3;have c:(b.st==1)=false:=by simpa using a
      simp[a3,g,c];exact e _ _ r (by simp)
     ·have a1:a.st=1:=by
       rcases(F8 af).2 with⟨_,_,_,s,_⟩ | ⟨_,_,s,_⟩ | ⟨_,_,s,_⟩<;>omega
      obtain⟨ww,wn⟩:=w1 a1;have c:(a.st==2)=false:=by simpa using T
      have k:(a.st==3)=false:=by simpa using a3
      simp[c,k,o0,o4,bB,bA,-D9];refine al.of (aq:=[.agg #[.slice f l.a.length h,.slice i l.rows.length j],.slice X a.x.length Z]) (M' d.tofA ae (y.aa.ext (aJ.ext w)) m.ok (aQ.ext (L.ext v)) aU.x) ?_;rintro _ _ ⟨s,rfl⟩;have gC:=s.h;have ag:=K.trans r s;have oc:=s.some ae g;have aK:=s.some ae o4
      cases hw:jm l a.x with
      | true=>
        obtain⟨a,c⟩:=ww hw;have f:(b.st==1)=true:=by simpa using a
        simp[oc,aK,f,c];exact e _ _ ag (by simp)
      | false=>
        rcases wn with g | ⟨c,aL,f,aV⟩
        ·have a:(b.st==2)=true:=by simpa using g
         simp[oc, a,aR];refine al.not ?_;simp[aR];exact e _ _ ag (by simp)
        ·have i:(b.st==1)=true:=by simpa using c
         have j:(b.st==2)=false:=by simp[c]
         obtain⟨_,b,_⟩:=FE af a1;have g:=(DO m B ax a1).1;have h:=iy.Iq z sa u c;rw[b]at g;rw[f]at h;simp[oc,aK,i,j,b,f,-ET];refine al.of (aq:=[ak (bk (l.P (bU a.x))),ak (bk aL)]) (H9 d.toyV gC g h) ?_;rintro _ _ ⟨kD,rfl⟩;have b:¬0<iF (l.P (bU a.x)) aL:=by
          rw[nz];exact fy.2 aV
         simp[b];exact e _ _ (K.trans ag kD) (by simp)
  ·have a:(ea==0)=false:=by simpa using u
   simp[aR,a,-w2];exact e _ _ r (by simp)
end Go.Dam.C
namespace Go.Dam.C
open Go Go.Dam Go.RowKit
section
variable{O:cy}{P:Program}{W:World}
def e8(O:cy)(W:World)(aQ:Value)(Q:ae->Value->Prop):Prop:=∀γ H,In O (λ_=>True) W γ H->∃a b v,In O (λ_=>True) W a b/\γ.le a/\Ext H b/\aO a v aQ/\Q b v
def Bd(Q:ae->Value->Prop):Prop:=∀H a v,Ext H a->Q H v->Q a v
theorem e8.plain{v:Value}(h:plainCell v=true):e8 O W v λ_ u=>u=v:=λγ H a=>⟨γ,H,v,a,.refl _,.refl _,.plainCell h,rfl⟩
theorem e8.imp{v:Value}{Q a:ae->Value->Prop}(h:e8 O W v Q)(g:∀H u,Q H u->a H u):e8 O W v a:=λγ H b=>
 let ⟨a,c,u,d,e,f,i,j⟩:=h γ H b;⟨a,c,u,d,e,f,i,g _ _ j⟩
theorem e8.list{V:Nat->Value}{Q:Nat->ae->Value->Prop}(ax:∀i,Bd (Q i)):∀k,(∀i,i<k->e8 O W (V i) (Q i))->∀γ H,In O (λ_=>True) W γ H->
 ∃a ab,∃u:Nat->Value,In O (λ_=>True) W a ab/\γ.le a/\Ext H ab/\∀i,i<k->aO a (u i) (V i)/\Q i ab (u i)
 | 0,_,γ,H,a=>⟨γ,H,λ_=>.bool true,a,.refl _,.refl _,λi a=>absurd a (gS _)⟩
 | k+1,h,γ,H,a=>by
   let⟨d,f,u,g,j,l,m⟩:=e8.list ax k (λi a=>h i ω) γ H a;let⟨a,n,v,o,b,c,p,q⟩:=h k ω d f g;refine⟨a,n,λi=>if i=k then v else u i,o,j.trans b,l.trans c,λi _=>?_⟩;by_cases e:i=k
   ·subst e;simp;exact⟨p,q⟩
   ·simp[e];let⟨p,q⟩:=m i ω;exact⟨p.mono b,ax i _ _ _ c q⟩
theorem e8.nil{w:Nat}{Q:ae->Nat->List Value->Prop}:e8 O W (.slice none 0 0) λH u=>fS H u 0 w (Q H):=λγ H a=>
 ⟨γ,H,_,a,.refl _,.refl _,.r1,none,0,rfl,bc _,λ_=>rfl,λ_ h=>by cases h⟩
theorem e8.slice{a:Addr}{len cap w:Nat}{V:Nat->Value}{Q:Nat->ae->Value->Prop}(ax:∀i,Bd (Q i))(l:len<=cap)(y:0<w)(s:∀j,j<cap*w->W.cell? (a.add j)=some (V j))(h:∀j,j<len*w->e8 O W (V j) (Q j)):
 e8 O W (.slice (some a) len cap) λH v=>fS H v len w λi cs=>∃u:Nat->Value,cs=(List.range w).map (λk=>u (i*w+k))/\∀k,k<w->Q (i*w+k) H (u (i*w+k)):=by
 intro γ H c;obtain⟨m,d,u,q,z,A,t⟩:=e8.list ax (len*w) h γ H c;have M:((List.range (len*w)).map u).length=len*w:=by simp
 have B:bN m ((List.range (len*w)).map u) ((List.range (len*w)).map V):=bN.rF (by simp) λi v _ p r=>by
  rw[jd]at p r;by_cases a:i<len*w
  ·rw[tu a]at p r;cases p;cases r;exact(t i a).1
  ·rw[hc (by simpa using a)]at p;cases p
 obtain⟨_,_,_,_⟩:=q.y9;obtain⟨b,o,C,D⟩:∃b o,qX W (λ_=>True) b o ((List.range (len*w)).map V)/\aO (m.set d.next ⟨b,o,0,0⟩) (.slice (some ⟨d.next,0,none⟩) len cap) (.slice (some a) len cap):=by
  by_cases E:cap=0
  ·subst E;obtain rfl:len=0:=by omega
   obtain⟨a,b,f,g⟩:=q.F5;exact⟨1,0,⟨trivial,a,b,f,g,by simp,by simp⟩,.nc (aT.gU _ _ _)⟩
  ·have F:0<cap*w:=tm (by omega) y;have f:=s 0 F;obtain⟨b,o,G⟩:=a;have H:G=none:=by simpa [Addr.add]using World.cell?_spot f
   subst H;obtain⟨a,h,k,g⟩:∃a h k,W.heap[b]? = some (.cells a h k):=by
    unfold World.cell? at f;split at f
    ·rename_i a e I g;exact⟨a,e,I,by simpa [Addr.add]using g⟩
    ·cases f
   have u:∀i,i<cap*w->a[o+i]? = some (V i):=by
    intro i c;have b:=s i c;rw[add_eq]at b;simpa [World.cell?,g]using b
   have N:=(gT.1 (u (cap*w-1) (by omega))).1;have O:len*w<=cap*w:=fV _ l;refine⟨b,o,⟨trivial,a,h,k,g,by simp;omega,λi v e=>?_⟩,?_⟩
   ·rw[jd]at e;by_cases b:i<len*w
    ·rw[tu b]at e;cases e;exact u i (by omega)
    ·rw[hc (by simpa using b)]at e;cases e
   ·have:=aO.gV (γ:=m.set d.next ⟨b,o,0,0⟩) (b:=d.next) (off:=0) (n:=len) (cap:=cap) (dm:=cap) (L:=⟨b,o,0,0⟩) (aT.gU _ _ _) (bc _) l (.inl rfl);simpa using this
 obtain⟨J,K,x⟩:=q.add C B;refine⟨_,_,_,J,z.trans K,A.trans x,D,_,cap,rfl,l,(λh=>by cases h),λa h=>?_⟩;cases h;refine⟨d.next,0,_,rfl,.inl cc,by simp,λi c=>⟨_,pW ?_,u,?_,λk j=>ax _ _ _ _ x (t _ ?_).2⟩⟩
 ·have:i*w+w<=len*w:=by rw[<-j0];exact fV _ c
  simp;omega
 ·apply n4;intro k;by_cases j:k<w
  ·have:i*w+w<=len*w:=by rw[<-j0];exact fV _ c
   rw[jY j,jZ,jd,jd,tu j,tu (by omega),Nat.zero_add];rfl
  ·rw[hc (by simp;omega),hc (by simpa using j)]
 ·have:i*w+w<=len*w:=by rw[<-j0];exact fV _ c
  omega
theorem An{v:Value}:Bd λ_ u=>u=v:=λ_ _ _ _ h=>h
theorem fS.vh{m w:Nat}{P:Nat->List Value->Prop}:Bd λH v=>fS H v m w P:=λ_ _ _ e h=>fS.imp h e λ_ _ _ h=>h
def fO:Value->List UInt8
 | .string s=>s.data.toList
 | _=>[]
def kP:Value->Int
 | .int _ n=>n
 | _=>0
def Bl:Value->Bool
 | .bool b=>b
 | _=>false
def kQ(v:Value):Prop:=∃s,v=.string s
def oN(v:Value):Prop:=∃n,v=.int .i64 n
def wv(v:Value):Prop:=∃b,v=.bool b
theorem kQ.st{v:Value}(h:kQ v):v=ak (fO v):=by obtain⟨_,rfl⟩:=h;rfl
theorem oN.int{v:Value}(h:oN v):v=.int .i64 (kP v):=by obtain⟨_,rfl⟩:=h;rfl
theorem wv.bool{v:Value}(h:wv v):v=.bool (Bl v):=by obtain⟨_,rfl⟩:=h;rfl
theorem kQ.lift{v:Value}(h:kQ v):e8 O W v λ_ u=>u=v:=by obtain⟨_,rfl⟩:=h;exact .plain rfl
theorem oN.lift{v:Value}(h:oN v):e8 O W v λ_ u=>u=v:=by obtain⟨_,rfl⟩:=h;exact .plain rfl
theorem wv.lift{v:Value}(h:wv v):e8 O W v λ_ u=>u=v:=by obtain⟨_,rfl⟩:=h;exact .plain rfl
def vG(W:World)(w:Nat)(v:Value)(E:(Nat->Value)->Prop):Prop:=v=.slice none 0 0∨∃b c a,∃V:Nat->Value,v=.slice (some b) c a/\c<=a/\(∀j,j<a*w->W.cell? (b.add j)=some (V j))/\∀i,i<a->E λk=>V (i*w+k)
def tV(W:World)(v:Value):Prop:=vG W 1 v λV=>kQ (V 0)
def AW(W:World)(v:Value):Prop:=vG W 2 v λV=>oN (V 0)/\kQ (V 1)
def AX(W:World)(v:Value):Prop:=vG W 5 v λV=>kQ (V 0)/\kQ (V 1)/\kQ (V 2)/\kQ (V 3)/\wv (V 4)
def RowsIn(W:World)(v:Value):Prop:=vG W 5 v λV=>kQ (V 0)/\oN (V 1)/\AW W (V 2)/\kQ (V 3)/\kQ (V 4)
theorem tV.lift{v:Value}(h:tV W v):∃l,e8 O W v λH u=>fp H u l:=by
 rcases h with rfl | ⟨o,e,f,V,rfl,p,q,g⟩
 ·exact⟨[],λγ H a=>⟨γ,H,_,a,.refl _,.refl _,.r1,fp.nil⟩⟩
 ·refine⟨(List.range e).map λi=>fO (V i),(e8.slice (w:=1) (Q:=λj _ u=>u=V j) (λ_=>An) p δ q λj _=>?_).imp λH u h=>?_⟩
  ·have:=g j ω;simp[Nat.mul_one,Nat.add_zero]at this;exact this.lift
  ·obtain⟨k,f,rfl,_,r,s⟩:=h;refine⟨k,f,σ',λi a=>?_⟩;have a:i<e:=φ a
   cases k with
   | none=>have:=r rfl;omega
   | some o=>
     obtain⟨h,m,n,rfl,b,_,t⟩:=s _ rfl;obtain⟨_,v,u,rfl,f⟩:=t i a;have e:=f 0 δ;simp[Nat.mul_one,Nat.add_zero]at e;have f:=(sX v).2;have c:=congrArg (λl=>l[0]?) f;simp[e]at c;have d:=g i ω;simp[Nat.mul_one,Nat.add_zero]at d;exact b.elim (λb=>⟨h,m,_,n,V i,rfl,b,rfl,c.symm,fO (V i),by simp[a],d.st⟩) λb=>⟨h,m,_,n,V i,rfl,b,rfl,c.symm,fO (V i),by simp[a],d.st⟩
theorem AW.lift{v:Value}(h:AW W v):∃l:List dL,e8 O W v λH u=>fS H u l.length 2 λi cs=>∃c,l[i]? = some c/\cs=c.cells:=by
 rcases h with rfl | ⟨_,b,_,V,rfl,c,d,a⟩
 ·exact⟨[],e8.nil⟩
 ·refine⟨(List.range b).map λi=>⟨kP (V (i*2+0)),fO (V (i*2+1))⟩,(e8.slice (w:=2) (Q:=λj _ u=>u=V j) (λ_=>An) c δ d λj _=>?_).imp λH u h=>?_⟩
  ·obtain⟨f,g⟩:=a (j/2) ω;have e:j=j/2*2+0∨j=j/2*2+1:=ω
   rcases e with e | e<;>rw[e]
   ·exact f.lift
   ·exact g.lift
  ·simp only[rU,xf];refine fS.imp h (λ_ _ e=>e) λi cs c ⟨u,e,b⟩=>⟨⟨kP (V (i*2+0)),fO (V (i*2+1))⟩,by simp[c],?_⟩;obtain⟨c,d⟩:=a i ω;have a:=b 0 δ;have f:=b 1 δ;rw[e];show[u (i*2+0),u (i*2+1)]=_;rw[a,f];show[V (i*2+0),V (i*2+1)]=[.int .i64 (kP (V (i*2+0))),ak (fO (V (i*2+1)))];rw[<-c.int,<-d.st]
theorem AX.lift{v:Value}(h:AX W v):∃l:List a1,e8 O W v λH u=>fS H u l.length 5 λi cs=>∃c,l[i]? = some c/\cs=c.cells:=by
 rcases h with rfl | ⟨_,a,_,V,rfl,c,d,b⟩
 ·exact⟨[],e8.nil⟩
 ·refine⟨(List.range a).map λi=>⟨fO (V (i*5+0)),fO (V (i*5+1)),fO (V (i*5+2)),fO (V (i*5+3)),Bl (V (i*5+4))⟩,(e8.slice (w:=5) (Q:=λj _ u=>u=V j) (λ_=>An) c δ d λj _=>?_).imp λH u h=>?_⟩
  ·let⟨f,g,h,i,k⟩:=b (j/5) ω;have e:j=j/5*5+0∨j=j/5*5+1∨j=j/5*5+2∨j=j/5*5+3∨j=j/5*5+4:=ω
   rcases e with e | e | e | e | e<;>rw[e]
   ·exact f.lift
   ·exact g.lift
   ·exact h.lift
   ·exact i.lift
   ·exact k.lift
  ·simp;refine fS.imp h (λ_ _ e=>e) λi cs c ⟨u,e,a⟩=>⟨⟨fO (V (i*5+0)),fO (V (i*5+1)),fO (V (i*5+2)),fO (V (i*5+3)),Bl (V (i*5+4))⟩,by simp[c],?_⟩;let⟨c,d,f,g,j⟩:=b i ω;rw[e];show[u (i*5+0),u (i*5+1),u (i*5+2),u (i*5+3),u (i*5+4)]=[ak (fO (V (i*5+0))),ak (fO (V (i*5+1))),ak (fO (V (i*5+2))),ak (fO (V (i*5+3))),.bool (Bl (V (i*5+4)))];rw[a 0 δ,a 1 δ,a 2 δ,a 3 δ,a 4 δ,<-c.st,<-d.st,<-f.st,<-g.st,<-j.bool]
theorem RowsIn.lift{v:Value}(h:RowsIn W v):∃l:List b9,e8 O W v λH u=>vy H u l:=by
 rcases h with rfl | ⟨c,k,d,V,rfl,m,n,f⟩
 ·exact⟨[],λγ H a=>⟨γ,H,_,a,.refl _,.refl _,.r1,none,0,rfl,bc _,λ_=>rfl,λc h=>by cases h⟩⟩
 ·have g:∀i,∃l:List dL,i<d->e8 O W (V (i*5+2)) λH u=>fS H u l.length 2 λi b=>∃c,l[i]? = some c/\b=c.cells:=λi=>by
   by_cases a:i<d
   ·obtain⟨l,h⟩:=(f i a).2.2.1.lift (O:=O);exact⟨l,λ_=>h⟩
   ·exact⟨[],λh=>absurd h a⟩
  obtain⟨a,l⟩:∃a:Nat->List dL,∀i,i<d->e8 O W (V (i*5+2)) λH u=>fS H u (a i).length 2 λd b=>∃c,(a i)[d]? = some c/\b=c.cells:=⟨λi=>(g i).choose,λi=>(g i).choose_spec⟩
  refine⟨(List.range k).map λi=>⟨fO (V (i*5+0)),kP (V (i*5+1)),a i,fO (V (i*5+3)),fO (V (i*5+4))⟩,
   (e8.slice (w:=5) (Q:=λj H u=>if j%5=2 then fS H u (a (j/5)).length 2 λd b=>∃c,(a (j/5))[d]? = some c/\b=c.cells else u=V j) (λj=>?_) m (by decide) n λj _=>?_).imp λH u h=>?_⟩
  ·by_cases e:j%5=2
   ·simp only[e,if_true];exact fS.vh
   ·simp only[e,if_false];exact An
  ·obtain⟨h,o,_,p,q⟩:=f (j/5) (by omega);have e:j=j/5*5+0∨j=j/5*5+1∨j=j/5*5+2∨j=j/5*5+3∨j=j/5*5+4:=by omega
   rcases e with e | e | e | e | e
   ·simp only[show ¬j%5=2 by omega,if_false];rw[e];exact h.lift
   ·simp only[show ¬j%5=2 by omega,if_false];rw[e];exact o.lift
   ·have:=l (j/5) (by omega);rw[<-e]at this;simp only[show j%5=2 by omega,if_true];exact this
   ·simp only[show ¬j%5=2 by omega,if_false];rw[e];exact p.lift
   ·simp only[show ¬j%5=2 by omega,if_false];rw[e];exact q.lift
  ·unfold vy;simp only[rU,xf];refine fS.imp h (λ_ _ e=>e) λi b c ⟨u,e,b⟩=>⟨⟨fO (V (i*5+0)),kP (V (i*5+1)),a i,fO (V (i*5+3)),fO (V (i*5+4))⟩,u (i*5+2),by simp[c],?_,?_⟩
   ·obtain⟨g,h,_,j,k⟩:=f i (by omega);have a:=b 0 (by decide);have c:=b 1 (by decide);have d:=b 3 (by decide);have f:=b 4 (by decide);rw[aw (by omega)]at a c d f;rw[e];show[u (i*5+0),u (i*5+1),u (i*5+2),u (i*5+3),u (i*5+4)]=[ak (fO (V (i*5+0))),.int .i64 (kP (V (i*5+1))),u (i*5+2),ak (fO (V (i*5+3))),ak (fO (V (i*5+4)))];rw[a,c,d,f,<-g.st,<-h.int,<-j.st,<-k.st]
   ·have a:=b 2 (by decide);rw[aL (by omega),show(i*5+2)/5=i by omega]at a;exact a
def A4(W:World)(v:Value):Prop:=∃a b,v=.agg #[a,b]/\AX W a/\RowsIn W b
def AU(W:World)(v:Value):Prop:=∃a b c d e,v=.agg #[a,b,c,d,e]/\oN a/\kQ b/\tV W c/\tV W d/\tV W e
theorem A4.lift{v:Value}(h:A4 W v):∃aa:ar,e8 O W v λH u=>sB H u aa:=by
 obtain⟨_,_,rfl,a,b⟩:=h;let⟨c,e⟩:=a.lift (O:=O);let⟨a,f⟩:=b.lift (O:=O);refine⟨⟨c,a⟩,λγ H b=>?_⟩;let⟨g,i,a,j,k,l,m,n⟩:=e γ H b;let⟨e,o,b,p,c,d,q,r⟩:=f g i j;exact⟨e,o,.agg #[a,b],p,k.trans c,l.trans d,.agg (.cons (m.mono c) (.cons q .nil)),a,b,rfl,fS.vh _ _ _ d n,r⟩
theorem AU.lift{v:Value}(h:AU W v):∃a:cW,e8 O W v λH u=>qU H u a:=by
 obtain⟨_,_,_,_,_,rfl,a,c,d,e,g⟩:=h;let⟨x,i⟩:=d.lift (O:=O);let⟨j,k⟩:=e.lift (O:=O);let⟨r,l⟩:=g.lift (O:=O);obtain⟨n,rfl⟩:=a;obtain⟨s,rfl⟩:=c;refine⟨⟨n,s.data.toList,x,j,r⟩,λγ H a=>?_⟩;let⟨g,j,c,m,o,p,q,t⟩:=i γ H a;let⟨i,r,d,u,e,f,v,w⟩:=k g j m;let⟨j,k,g,m,a,b,x,y⟩:=l i r u;exact⟨j,k,.agg #[.I n,.string s,c,d,g],m,(o.trans e).trans a,(p.trans f).trans b,.agg (.cons (.int _ _) (.cons (.str _) (.cons ((q.mono e).mono a) (.cons (v.mono a) (.cons x .nil))))),c,d,g,rfl,t.ext (f.trans b),w.ext b,y⟩
section
variable{vx:Type}{enc:TypeId×Value->vx}{base:Nat}{held:Bool}
theorem Av{t e l w:Nat}{v:Value}{x:DataW vx×List MemPlace}{E:(Nat->Value)->Prop}(o:P.underlying t=some (.slice e))(p:P.cellsOf e=w)(h:DataW.trod enc P W base (λ_=>true) held l t [v]=some x)
 (q:∀(V:Nat->Value) n y,DataW.trod enc P W base (λ_=>true) held n e ((List.range w).map V)=some y->E V):vG W w v E:=by
 rcases Deep.open_slice o h with⟨fr,_⟩ | ⟨a,len,cap,m,n,D,MS,fr,_,aY,_,hm,_,G8⟩
 ·exact .inl (φ fr)
 ·have hm:m=cap:=φ hm
  subst hm;rw[p]at G8;refine .inr ⟨a,len,m,λj=>(W.cell? (a.add j)).getD (.bool true),φ fr,aY,?_⟩;have f:∀i,i<m->∃b,b.length=w/\(∀k,k<w->W.cell? (a.add (i*w+k))=b[k]?)/\DataW.trod enc P W base (λ_=>true) held n e b=some (D i,MS i):=λi c=>by
   obtain⟨b,a,e⟩:=G8 i c;obtain⟨_,g,h⟩:=World.cells?_some a;exact⟨b,g,λk a=>by rw[<-h k a,Deep.add_add],e⟩
  refine⟨λj d=>?_,λi c=>?_⟩
  ·have g:0<w:=qo λe=>by subst e;simp at d
   obtain⟨b,e,h,_⟩:=f (j/w) (ts (by rw[eZ];exact d));have d:=h (j%w) (o1 _ g);rw[show j/w*w+j%w=j by rw[eZ];exact xi j w]at d;rw[en (by rw[e];exact o1 _ g)]at d;show _=some ((W.cell? (a.add j)).getD _);rw[d];rfl
  ·obtain⟨b,_,b,a⟩:=f i c;refine q _ n (D i,MS i) ?_;rw[<-a];congr 1;apply n4;intro k;by_cases a:k<w
   ·rw[jd,tu a,<-b k a];have:=b k a;rw[en ω]at this;rw[this];simp[this]
   ·rw[hc (φ a),hc ω]
theorem hD{e a:Nat}{c2:Array Field}{cs:List Value}{x:DataW vx×List MemPlace}{i:Nat}{f:Field}{u:Value}(c:P.underlying e=some (.struct c2))(h:DataW.trod enc P W base (λ_=>true) held a e cs=some x)
 (a:c2[i]? = some f) (d:P.cellsOf f.type=1) (g:cs[f.offset]? = some u):∃n y,DataW.trod enc P W base (λ_=>true) held n f.type [u]=some y:=by
 let⟨_,n,_,_,_,_,j⟩:=DataW.trod_struct c h;have b:=j i f a;have c:=(gT.1 a).1;have e:(cs.drop f.offset).take 1=[u]:=by
  apply n4;intro k
  cases k with
  | zero=>simp[g]
  | succ k=>simp[List.getElem?_take]
 rw[d,e,en ω]at b;exact⟨n,_,b⟩
theorem oO{t a:Nat}{u:Value}{y:DataW vx×List MemPlace}(b:P.underlying t=some .string)(h:DataW.trod enc P W base (λ_=>true) held a t [u]=some y):kQ u:=by
 let⟨s,e,_⟩:=DataW.trod_string b h;exact⟨s,φ e⟩
theorem wx{t a:Nat}{u:Value}{y:DataW vx×List MemPlace}(b:P.underlying t=some (.int .i64))(h:DataW.trod enc P W base (λ_=>true) held a t [u]=some y):oN u:=by
 let⟨s,e,_⟩:=DataW.trod_int b h;exact⟨s,φ e⟩
theorem W'{t a:Nat}{u:Value}{y:DataW vx×List MemPlace}(b:P.underlying t=some .bool)(h:DataW.trod enc P W base (λ_=>true) held a t [u]=some y):wv u:=by
 let⟨s,e,_⟩:=DataW.trod_bool b h;exact⟨s,φ e⟩
end
end
end Go.Dam.C
