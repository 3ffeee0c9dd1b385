/- What the functions of the program compute, for every input. -/
import Derived.Test.YtbholmodckdigaaGreatDoorLawB
import Derived.Deep.Slices
import Derived.SliceStrings
namespace Go.Dam.C
open Go Go.Dam
variable{X:ar}{pm:Perm}{H aa bL aj:ad}{n:Nat}
theorem h1.N8{v:Value}{i n:Nat}{x:Nat->Rat}(h:h1 pm n H v i x)(c:i=0->v=.slice none 0 0):∃a,v=aP a i/\(0<i->n<=a/\dI H a i i x):=by
 obtain⟨e,o,b,f,g⟩:=h;by_cases h:i=0
 ·subst h;exact⟨0,c rfl,λh=>by omega⟩
 ·cases o with
  | none=>
    obtain⟨rfl,_,rfl⟩:=b;exact absurd rfl h
  | some d=>
    obtain⟨rfl,h,i⟩:=b;exact⟨d,(cO (by omega)).symm,λ_=>⟨(f d rfl).1,e,i,by simpa using h,g⟩⟩
section
variable{P:bu}{ak:Nat}{ai:Nat->Nat}{lc bo:Value}{T:bd}{c:Nat->Rat}{ab:aI}
theorem cl.lt(h:cl P ak H ai lc bo T)(g:bs pm H){i:Nat}(aJ:i<P.m):ai (5+i)<H.next:=by
 obtain⟨_,a,_⟩:=h.row i aJ;exact g.lt a
theorem Kp(j:ep X)(a:bs pm aj)(g:ab.ok)(w:ab.I=true)(h:kC ab P c)(l:cl P ak aj ai lc bo T)(x:gC aj lc ab.a)(y:dx P T){t:Nat}(H:t<=100000)(z:gQ P T t):
 Call X pm F.nA [.pointer (some ⟨ai 0,0,none⟩)] aj λr aa=>K pm aj aa/\mm aa r P.n (red P c T):=by
 refine Call.P j.nA rfl λ_ I=>?_;have s:=h.ok g;have A:=s.n;have A:=s.m;have A:=l.t;obtain⟨J,L,N⟩:=k9 (ai 3) P.n;rw[L]at A;simp[A,-E8,-Fa]
 refine eE (σ:=Value) P.n (λ_ u=>[(0,.pointer (some ⟨ai 0,0,none⟩)),(3,u),(14,.slice J P.n P.n)])
  (λk u aa=>K pm aj aa/\h1 pm aj.next aa u k (hT P c T 0)/\(k=0->u=.slice none 0 0)) (.slice none 0 0) (by decide) (by omega) (by simp) ⟨K.refl a,h1.nil,λ_=>rfl⟩ (by simp) ?_ ?_
 ·rintro k u _ e ⟨d,o,_⟩;obtain rfl:=N (by omega);have f:=d.h;have i:=l.k a d;obtain⟨_,p,_,q⟩:=i.c (by omega);have t:=q k e;have q:=y.c k e;simp[p,t,e,-Ff];refine aq.of (az:=[.pointer (some ⟨ai 0,0,none⟩),.int .i64 (T.a k:Int)]) (by simp) (by simp) (G5 j f g w h i (x.ext (d.ext a)) (by omega)) ?_;rintro r _ ⟨b,m⟩;obtain⟨_,v,n,B⟩:=(o.k f b).app (cc:=8) b.h m (by omega) (by omega) (d.trans b).next;have C:(λe=>if e=k then e2 P c (T.a k) else hT P c T 0 e)=hT P c T 0:=by
   funext e;by_cases c:e=k
   ·subst c;simp[hT,a1,na]
   ·simp[c]
  rw[C]at n;obtain⟨_,rfl,_⟩:=id m;simp[b.h.pick,b.h.make,fill,setCells,v];exact⟨aF.trans (d.trans b) B,n⟩
 ·rintro u O ⟨v,Q,R⟩;have u:=v.h;obtain⟨B,rfl,u⟩:=Q.N8 R;obtain⟨S,A,U⟩:=k9 (ai 4) P.m;have C:=v.some a l.t;rw[A]at C;obtain⟨f,V,W,X⟩:∃f,aP B P.n=aP f P.n/\aj.next<=f/\(0<P.n->dI O f P.n P.n (hT P c T 0)):=by
   by_cases b:P.n=0
   ·exact⟨aj.next,by simp[aP,b],bg _,λ_=>by omega⟩
   ·obtain⟨c,d⟩:=u (by omega);exact⟨B,rfl,c,λ_=>d⟩
  rw[V];simp[C,-E7]
  refine eE (σ:=Unit) P.m (λ_ _=>[(0,.pointer (some ⟨ai 0,0,none⟩)),(3,aP f P.n),(30,.slice S P.m P.m)])
   (λi _ aa=>K pm aj aa/\(0<P.n->dI aa f P.n P.n (hT P c T i))) () (by decide) (by omega) (by simp) ⟨v,X⟩ (by simp) ?_ ?_
  ·rintro i _ _ e ⟨o,D⟩;obtain rfl:=U (by omega);have p:=o.h;have m:=l.k a o;obtain⟨_,v,_,u⟩:=m.m (by omega);have A:=u i e;obtain⟨_,B,_,u⟩:=m.r (by omega);have C:=u i e;have u:=m.t;rw[cO (b:=ai 2) (show 0<P.m by omega)]at u;have J:=y.r i e;simp[v,A,e,u,B,C,-Fe,-E'];refine aq.of (az:=[.pointer (some ⟨ai 0,0,none⟩),.int .i64 (T.rows i:Int)]) (by simp) (by simp) (G5 j p g w h m (x.ext (o.ext a)) (by omega)) ?_;rintro r u ⟨n,E⟩;have F:=o.trans n;have G:∀k,hT P c T (i+1) k=hT P c T i k+e2 P c (T.rows i)*T.M i k:=λk=>by rw[hT,hT,a1];grind
   simp[-Fc,-vL];refine aq.of (az:=[r]) (by simp) (by simp) (jr j.tozg n.h E.of ((wL g h).bw (by decide))) ?_;rintro _ u ⟨rfl,rfl⟩;by_cases b:e2 P c (T.rows i)=0
   ·simp[hB,b];exact⟨F,λc=>((D c).k p n).congr λk _=>by rw[G,b];grind⟩
   ·have o:ai (5+i)≠f:=by
     have:=l.lt a e;omega
    simp[hB,b,-vL];refine Sh j a F s W o (q:=e2 P c (T.rows i)) (M:=T.M i) (d:=hT P c T i) (t:=t) (jj:=10000000) (wL g h) H (λk a=>z.M i k e a) (by omega) (λk a=>en (yl g h z a (CD e)) ?_) ((m.row i e).k p n) (λh=>(D h).k p n) E (yQ:=.pointer (some ⟨ai 0,0,none⟩)) (yR:=.slice (some ⟨ai 4,0,none⟩) P.m P.m) (i:=i) (by simp) (by simp) (by simp) (by simp) (by simp) (by simp) (by simp) λ_ aa a _ b e=>?_
    ·have:i*(10001+t)<=40*110001:=gK (by omega) (by omega);omega
    ·simp;exact⟨by simpa using e,a,λh=>(b h).congr λk _=>G k⟩
  ·rintro _ _ ⟨a,b⟩;simp;refine I _ _ _ ?_;simp;refine⟨a,?_⟩;by_cases h:P.n=0
   ·rw[h];exact⟨none,0,rfl,λi a=>absurd a (hz _)⟩
   ·rw[cO (by omega)];exact(b (by omega)).row
end
abbrev tyF:Nat:=T.TY
theorem fq{b c:Nat}(h:b≠c):du [b] [c]=true:=by simp[du,h]
theorem aF.fill(u:aF pm n H aa){c:Nat}(h:n<=c)(d:aa.get c=none)(f:c<aa.next)(x:bk):aF pm n H (aa.put c x) where
 h:=⟨⟨u.h.num,u.h.ah,λb a=>by
  have a:aa.next<=b:=a;rw[ad.O,aC (by omega)];exact u.h.wf b a,λb a=>trivial⟩,by
  show(aa.put c x).get 1=_;rw[ad.O,aC]
  ·exact u.h.dD
  ·rintro rfl;rw[u.h.dD]at d;cases d⟩
 next:=u.next
 get:=λb a=>by rw[ad.O,aC (by omega)];exact u.get b a
 cr:=λb o e=>by
  have e:=u.cr b o e;rw[ad.O,aC]
  ·exact e
  ·rintro rfl;rw[e]at d;cases d
section
variable{P:bu}{ak:Nat}{ai:Nat->Nat}{lc bo:Value}{T:bd}{c:Nat->Rat}{ab:aI}
theorem gQ.mono{t b:Nat}(h:gQ P T t)(a:t<=b):gQ P T b:=⟨λx b=>⟨λl e=>en ((h.v x b).ah l e) a,λl e=>en ((h.v x b).up l e) a,en (h.v x b).v a⟩,λi k b c=>en (h.M i k b c) a⟩
theorem Ou(j:ep X)(g0:bs pm aj)(al:pm.ah<=ak)(Y:ak<=aj.next)(p:ll P)(G:bd->Prop){t:Nat}(Z:1<=t)(ht:t<=20000)(hG:∀T,G T->Inv P T/\gQ P T t/\Ends (hr P) T)(aH:∀T g,G T->hr P T=some g->G g)(h0:cl P ak aj ai lc bo T)(q:G T):
 Call X pm F.oM [.pointer (some ⟨ai 0,0,none⟩)] aj λr aa=>∃g,aF pm ak aj aa/\cl P ak aa ai lc bo g/\G g/\(kv P g=none/\r=.tuple #[.int .i64 0,.bool true]∨∃a,kv P g=some a/\kM P g a (off P g.v (g.rows a))=none/\r=.tuple #[.int .i64 a,.bool false]):=by
 refine Call.P j.oM rfl λaI hQ=>?_;have g:=p.n;have g:=p.m;simp[-Ec];refine ef.of (σ:=bd) (λ_=>[(0,.pointer (some ⟨ai 0,0,none⟩))]) (λT H=>aF pm ak aj H/\cl P ak H ai lc bo T/\G T) (left (hr P)) T (by simp) ⟨aF.refl g0,h0,q⟩ ?_;rintro T _ ⟨u1,t1,q⟩;obtain⟨g,s,aJ⟩:=hG T q;have J:=g.y;have g1:=u1.h;simp[-Eg,-Ee];refine aq.of (az:=[.pointer (some ⟨ai 0,0,none⟩)]) (by simp) (by simp) (TS j g1 p t1 J (t:=t) (by omega) s) ?_;rintro _ c ⟨u,rfl⟩;have ab:=aY Y u1.next;have u2:=u1.k u ab
 cases M:kv P T with
 | none=>
   simp[c2];refine hQ _ _ _ ?_;simp;exact⟨u2,T,t1.k g1 u,q,M⟩
 | some a=>
   obtain⟨h,N,_⟩:=lr M;have N:off P T.v (T.rows a)≠0:=by simpa using N
   have f:=u.h;have L:=t1.k g1 u;have ad:=J.r a h;have g:0<P.n+P.m:=by omega
   have O:0<P.m:=by omega
   have ae:=L.t;rw[cO (b:=ai 1) g,cO (b:=ai 2) O]at ae;obtain⟨_,r1,_,r3⟩:=L.r O;have aL:=r3 a h;obtain⟨az,_,_,_,v1,v2,y⟩:=(L.v g).load ad;have aM:=f.lt ae;have aN:=f.lt v1;have aO:=f.lt r1;simp[c2,-yW];refine cy.of f.ah rfl ?_;obtain⟨Q,rfl⟩:=y.ah.ptr;obtain⟨R,rfl⟩:=y.up.ptr;obtain⟨S,rfl,_⟩:=id y.v;obtain⟨r,U⟩:∃r,r=((c.up 15).put (c.next+13) (.cells [.pointer none,.pointer none,.pointer none] (.t tyF))).put (c.next+13) (.cells [.pointer Q,.pointer R,.pointer (some ⟨S,0,none⟩)] (.t tyF)):=⟨_,rfl⟩;have an:((c.up 15).put (c.next+13) (.cells [.pointer none,.pointer none,.pointer none] (.t tyF))).get (c.next+14)=none:=by rw[a7 (by omega)];exact f.none 14
   have g:K pm c (c.up 15):=(K.refl f).up 15;have v:K pm c r:=by
    rw[U];exact aF.put (aF.fill g (e9 _ _) (f.none 13) (by show c.next+13<c.next+15;omega) _) (e9 _ _) b1 (by simp) _
   have af:r.get (c.next+13)=some (.cells [.pointer Q,.pointer R,.pointer (some ⟨S,0,none⟩)] (.t tyF)):=by rw[U];exact b1
   have g:=λo=>eG (ok:=pm.ok) (o:=o) (ah:=pm.ah) (b:=c.next+13) (aY f.ah (e9 _ _));have ao:=f.none 13;have ar:=fq (show c.next+13≠ai 0 by omega);have au:=fq (show c.next+13≠ai 1 by omega);have av:=fq (show c.next+13≠ai 2 by omega);simp[b7,f.none,f.J,ae,r1,aL,h,v1,v2,ad,Perm.make,Perm.pick,ptr,bB,<-U, an,g,cj,cd,aM,aN,aO, dM,ar,au,av,-yW];clear U an ar au av ao;have i:=v.h;have u3:=u2.k v (aY ab u.next);have z:=s.v _ ad;have aw:=i.lt af;have ag:K pm r (r.up 6):=(K.refl i).up 6;simp[-yV];refine cy.of i.ah rfl ?_;simp[b7,i.none,i.J,af,bx,-yV];have ao:=aw;generalize c.next+13=b at*
   refine eM ag.h (az:=[.agg #[.pointer Q,.pointer R,.pointer (some ⟨S,0,none⟩)]]) (by simp[i.none]) (by simp) (by simp[bB]) rfl (λax A=>BV j A ((y.k v).k ag) z (by omega)) ?_;rintro _ H4 k4 rfl;have g:=k4.res i;have c:=ag.trans k4;have ay:=c.some i af;have u4:=u3.k c (aY (aY ab u.next) v.next);have t4:=(L.k f v).k i c;have v4:=(y.k v).k c;have g4:=u4.h;have aA:=aY Y u4.next;simp[g,cj,cd,aw,jT,dM,ed,-vF];obtain⟨w,k⟩:∃w,w=off P T.v (T.rows a):=⟨_,rfl⟩;have m:=xH N;rw[<-k]at m|-
   have aB:∀(V:Value) (L:bb),b9 H4 V (goal P (T.rows a) w)->aK 0 L=some (.pointer (some ⟨ai 0,0,none⟩))->aK 4 L=some (.int .i64 (a:Int))->aK 5 L=some (.pointer (some ⟨b,0,none⟩))->aK 6 L=some (.int .i64 w)->aK 7 L=some V->
    wp X pm (.code vF) L H4 [] λx l H=>(x=.ret/\kM P T a w=none/\aK 2 l=some (.int .i64 (a:Int))/\aK 3 l=some (.bool false)/\aF pm ak aj H/\cl P ak H ai lc bo T)∨(x=.normal/\∃d,kM P T a w=some d/\aK 0 l=some (.pointer (some ⟨ai 0,0,none⟩))/\aF pm ak aj H/\cl P ak H ai lc bo (gW P T a d)):=by
    intro V L aP B W l5 c l7;simp[B,W,c,-Eh,-Ef];refine aq.of (az:=[.pointer (some ⟨ai 0,0,none⟩),.int .i64 (a:Int),.int .i64 w]) (by simp) (by simp[]) (ON j g4 p t4 J (t:=t) (by omega) s h m) ?_;rintro _ H5 ⟨o,rfl⟩;have e:=o.h;have C:=t4.k g4 o;have u5:=u4.k o aA
    cases f:kM P T a w with
    | none=>
      simp[c2,W];exact⟨u5,C⟩
    | some d=>
      obtain⟨D,c,_⟩:=lr f;simp only[b3,df]at c;have aa:=c.1;have ah:=o.some g4 ay;have H:=C.t;rw[cO (b:=ai 4) O]at H;obtain⟨_,m1,_,c⟩:=C.m O;have aK:=c a h;obtain⟨_,p1,_,c⟩:=C.row a h;obtain⟨pc,aQ,aR⟩:=c d D;have q0:=e.lt H;have q1:=e.lt m1;have q2:=e.lt p1;have q3:=e.lt ah;have n:K pm H5 (H5.up 20):=(K.refl e).up 20;simp[c2,-vE];refine cy.of e.ah rfl ?_;simp[b7,e.none,e.J,B,W,l5,l7,ah,H,m1,aK,h,p1,aQ,D,-vE];have c:=K.trans o n;have E:=aP.up c;have F:=v4.v.up c;have f:=n.some e H;have I:=n.some e m1;have g:=n.some e p1;have i:=n.some e ah;have j0:=λc=>nO E F f c;have j1:=λc=>nO E F I c;have j2:=λc=>nO E F g c;have f:=λc=>nO E F i c;have ak:=s.M a d h D;have aD:aS (goal P (T.rows a) w) t:=by
       unfold goal
       rcases m with m | m
       ·rw[m,aC (by decide)]
        cases b:P.ah (T.rows a) with
        | none=>exact pR Z
        | some l=>exact z.ah l b
       ·rw[m,aT (by decide)]
        cases b:P.up (T.rows a) with
        | none=>exact pR Z
        | some l=>exact z.up l b
      have aj:t<=fo:=aY ht (by decide);have aU:2*t+1<=fo:=aY (show 2*t+1<=50000 by omega) (by decide);have aE:=s3 aD z.v;have aV:aS (qh P T a d) (4*t+2):=by
       unfold qh;rw[<-k];exact en (yG aE (en ak (by omega)) aa) (by omega)
      refine eM n.h (az:=[V,.pointer (some ⟨S,0,none⟩)]) (by simp[e.none]) (by simp) (by simp) rfl (λax A=>zp j.tozg A E.of F.of (aD.bw aj) (z.v.bw aj)) ?_;rintro c _ X f6;have f:=X.res e;have aF:=n.trans X;have aW:=aR.up aF;simp[-vE];refine gS X.h (az:=[c,pc]) (by simp[f]) (by simp) (by simp) rfl (λax A=>vT j.tozg A f6.of aW.of (aE.bw aU) (ak.bw aj) aa) ?_;rintro _ _ k7 ⟨p7,rfl,c⟩;have m:=(K.trans X k7).res e;have f:=aF.trans k7;have n:=k7.h;have g:=u5.k f (aY aA o.next);have i:=aY Y g.next;have o:=C.k e f;have e:(goal P (T.rows a) w-T.v (T.rows a))/T.M a d=qh P T a d:=by rw[qh,k]
      rw[e]at c;simp[m,cj,cd,q0,q1,q2,q3, dM,j0,j1,j2, B,-Ed];refine aq.of (az:=[.pointer (some ⟨ai 0,0,none⟩),.int .i64 (d:Int),p7]) (by simp) (by simp) (Jd j n al i p o J (t:=4*t+2) (by omega) (s.mono (by omega)) D c aV) ?_;rintro _ _ ⟨c,e⟩;have f:=aY i c.next;simp[B,W];refine aq.of (az:=[.pointer (some ⟨ai 0,0,none⟩),.int .i64 (a:Int),.int .i64 (d:Int)]) (by simp) (by simp[]) (J' j c.h al f p e (t:=t) Z (by omega) (λi e f j=>s.M i e f j) h D aa) ?_;rintro _ _ ⟨e,f⟩;simp[B];exact⟨(g.trans c).trans e,f⟩
   have aG:∀x l H,((x=.ret/\kM P T a w=none/\aK 2 l=some (.int .i64 (a:Int))/\aK 3 l=some (.bool false)/\aF pm ak aj H/\cl P ak H ai lc bo T)∨(x=.normal/\∃d,kM P T a w=some d/\aK 0 l=some (.pointer (some ⟨ai 0,0,none⟩))/\aF pm ak aj H/\cl P ak H ai lc bo (gW P T a d)))->wp X pm (.res x) l H [.aW 1] λx c aa=>match x with
    | .normal=>jk (λ(_:bd)=>[(0,.pointer (some ⟨ai 0,0,none⟩))]) (λT H=>aF pm ak aj H/\cl P ak H ai lc bo T/\G T) (left (hr P)) T c aa
    | x=>wp X pm (.res x) c aa [.aW 0] aI:=by
    rintro x l H (⟨rfl,b,n,o,e,t⟩ | ⟨rfl,d,b,B,e,t⟩)
    ·simp;refine hQ _ _ _ ?_;simp[n,o];exact⟨e,T,t,q,a,M,by rw[<-k];exact b,rfl⟩
    ·simp;have c:hr P T=some (gW P T a d):=by rw[hr,M];simp only;rw[<-k,b]
     exact jk.of (gW P T a d) (IM aJ c) (by simpa using B) ⟨e,t,aH _ _ q c⟩
   simp[ay,-vF]
   rcases sg N with⟨I,l,g',_⟩ | ⟨I,l,g',_⟩
   ·have a:w=1:=k.trans I;refine⟨λ_=>by omega,λ_=>wp_cut _ (aB (.pointer Q) _ ?_ (by simp) (by simp) (by simp) (by simp) (by simp)) aG⟩;have:=v4.ah;rw[g']at this;rw[goal,aC (by omega),g'];exact this
   ·have a:w=-1:=k.trans I;refine⟨λ_=>wp_cut _ (aB (.pointer R) _ ?_ (by simp) (by simp) (by simp) (by simp) (by simp)) aG,λ_=>by omega⟩;have:=v4.up;rw[g']at this;rw[goal,aT (by omega),g'];exact this
end
section
variable{P:bu}{ak:Nat}{ai:Nat->Nat}{lc bo:Value}{T:bd}{c:Nat->Rat}{ab:aI}
theorem NZ(b:ep X)(w:bs pm aj)(M:pm.ah<=ak)(g:ak<=aj.next)(s:ab.ok)(hm:ab.I=true)(v:kC ab P c)(_:gC aj lc ab.a)(al:∀aa,aF pm ak aj aa->gC aa lc ab.a)(G:bd->Prop){t:Nat}(an:1<=t)(a:t<=20000)(Q:∀T,G T->Inv P T/\gQ P T t/\Ends (gk P c) T)(ao:∀T a,G T->gk P c T=some a->G a)(O:cl P ak aj ai lc bo T)(h:G T):
 Call X pm F.oK [.pointer (some ⟨ai 0,0,none⟩)] aj λr aa=>∃a,aF pm ak aj aa/\cl P ak aa ai lc bo a/\G a/\(enters P c a=none/\r=.tuple #[.int .i64 (-1),.int .i64 0]∨∃af,enters P c a=some af/\(dn P a af (hp P c a af) P.m).Y=none/\r=.tuple #[.int .i64 af,.int .i64 (hp P c a af)]):=by
 refine Call.P b.oK rfl λar N=>?_;have i:=v.ok s;have a:=i.n;have au:=i.m;simp[-D0];refine ef.of (σ:=bd) (λ_=>[(0,.pointer (some ⟨ai 0,0,none⟩))]) (λT H=>aF pm ak aj H/\cl P ak H ai lc bo T/\G T) (left (gk P c)) T (by simp) ⟨aF.refl w,O,h⟩ ?_;rintro T _ ⟨a,O,h⟩;obtain⟨w,d,av⟩:=Q T h;have j:=w.y;have Q:=a.h;have aw:=aY g a.next;simp[-D4,-yU];refine aq.of (az:=[.pointer (some ⟨ai 0,0,none⟩)]) (by simp) (by simp) (Kp b Q s hm v O (al _ a) j (t:=t) (by omega) d) ?_;rintro al _ ⟨w,hd⟩;have R:=w.h;have S:=a.k w aw;have ax:=aY g S.next;have U:=O.k Q w;have a:∀k,k<P.n->aS (red P c T k) 10000000:=λk y=>en (yl s v d y (bg P.m)) (by
  have:P.m*(10001+t)<=40*30001:=gK au (by omega);omega)
 simp[-D3,-yU];refine aq.of (az:=[.pointer (some ⟨ai 0,0,none⟩),al]) (by simp) (by simp) (Oe b R i U j (t:=t) (by omega) d hd (jj:=10000000) (by omega) a) ?_;rintro _ _ ⟨z,rfl⟩;have V:=z.h;have A:=S.k z ax;have ay:=aY g A.next;have B:=U.k R z
 cases o:enters P c T with
 | none=>
   simp[c2,vz];refine N _ _ _ ?_;simp;exact⟨A,T,B,h,o⟩
 | some af=>
   obtain⟨p,W,_⟩:=lr o;simp only[b3,df]at W;have Y:hp P c T af=1∨hp P c T af=-1:=by
    unfold hp
    rcases jH W.1 with⟨_,e⟩ | ⟨_,e⟩<;>rw[e]<;>simp
   obtain⟨aG,m⟩:∃aG,aG=hp P c T af:=⟨_,rfl⟩;rw[<-m]at Y;simp[c2,vz,<-m,-D5,-D2];refine aq.of (az:=[.pointer (some ⟨ai 0,0,none⟩),.int .i64 (af:Int),.int .i64 aG]) (by simp) (by simp) (Qh b V i B j (t:=t) (by omega) d p Y) ?_;rintro _ Z ⟨r,aA,rfl,f⟩;have C:=r.h;have D:=A.k r ay;have aB:=aY g D.next;have t4:=B.k V r;have ab:=BG P T af aG P.m;have ae:=IQ d j p (aG:=aG) (bg P.m);obtain⟨L,E⟩:∃L,L=dn P T af aG P.m:=⟨_,rfl⟩;rw[<-E]at ab ae f|-
   cases n:L.Y with
   | none=>
     rw[n]at f;obtain rfl:aA=.pointer none:=f;simp;refine N _ _ _ ?_;simp;exact⟨D,T,t4,h,af,o,by rw[<-m,<-E];exact n,rfl,m⟩
   | some q=>
     rw[n]at f;obtain⟨fb,rfl,_⟩:=id f;have F:=ae q n;have a:gk P c T=some (gU P T af aG q L.ind):=by rw[gk,o];simp only;rw[<-m,<-E,n]
     have aD:=IM av a;have aE:=ao _ _ h a
     have ag:∀(e:ad) (u:Value) (l:bb),K pm Z e->b9 e u (if aG<0 then -q else q)->aK 0 l=some (.pointer (some ⟨ai 0,0,none⟩))->aK 4 l=some (.int .i64 (af:Int))->aK 6 l=some u->aK 7 l=some (.int .i64 (c2 L.ind))->
      wp X pm (.code vD) l e [] λx l H=>x=.normal/\aK 0 l=some (.pointer (some ⟨ai 0,0,none⟩))/\aF pm ak aj H/\cl P ak H ai lc bo (gU P T af aG q L.ind):=by
      intro e u l I hu c K l6 l7;have aa:aS (if aG<0 then -q else q) (4*t+2):=by
       split
       ·exact oF F
       ·exact F
      have a:=D.k I aB;have h:=aY g a.next;simp[c,K,l6,-D1];refine aq.of (az:=[.pointer (some ⟨ai 0,0,none⟩),.int .i64 (af:Int),u]) (by simp) (by simp[]) (Jd b I.h M h i (t4.k C I) j (t:=4*t+2) (by omega) (d.mono (by omega)) p hu aa) ?_;rintro _ _ ⟨u6,t6⟩;have J:=a.trans u6;have ad:=aY g J.next
      cases a:L.ind with
      | none=>
        simp[l7,a,c2,c];exact⟨J,t6⟩
      | some g=>
        obtain⟨h,j,_⟩:=ab.row g a;simp[l7,a,c2,c,K];refine aq.of (az:=[.pointer (some ⟨ai 0,0,none⟩),.int .i64 (g:Int),.int .i64 (af:Int)]) (by simp) (by simp[  ]) (J' b u6.h M ad i t6 (t:=t) an (by omega) (λi k a y=>d.M i k a y) h p j) ?_;rintro _ _ ⟨a,d⟩;simp[c];exact⟨J.trans a,d⟩
     have ah:∀x l H,(x=.normal/\aK 0 l=some (.pointer (some ⟨ai 0,0,none⟩))/\aF pm ak aj H/\cl P ak H ai lc bo (gU P T af aG q L.ind))->wp X pm (.res x) l H [.aW 1] λx a aa=>match x with
      | .normal=>jk (λ(_:bd)=>[(0,.pointer (some ⟨ai 0,0,none⟩))]) (λT H=>aF pm ak aj H/\cl P ak H ai lc bo T/\G T) (left (gk P c)) T a aa
      | x=>wp X pm (.res x) a aa [.aW 0] ar:=by
      rintro x l H ⟨rfl,a,u,t⟩;simp;exact jk.of _ aD (by simpa using a) ⟨u,t,aE⟩
     simp[-vD];refine⟨λa=>?_,λ_=>?_⟩
     ·refine aq.of (az:=[.pointer (some ⟨fb,0,none⟩)]) (by simp) (by simp) (wa b.tozg C f.of (F.bw (aY (show 4*t+2<=90000 by omega) (by decide)))) ?_;rintro u e ⟨b,c⟩;simp[-vD];exact wp_cut _ (ag e u _ b (by rw[aT a];exact c) (by simp) (by simp) (by simp) (by simp)) ah
     ·exact wp_cut _ (ag Z _ _ (K.refl C) (by rw[aC (by omega)];exact f) (by simp) (by simp) (by simp) (by simp)) ah
end
def dT(H:ad)(c n:Nat)(f:Nat->List UInt8):Prop:=∃a,H.get c=some (.cells a (.n 1))/\a.length=n/\∀i,i<n->a[i]? = some (aA (f i))
theorem dT.k{c n:Nat}{f:Nat->List UInt8}(h:dT H c n f)(g:bs pm H)(k:K pm H aa):dT aa c n f:=let ⟨a,b,d⟩:=h;⟨a,k.some g b,d⟩
theorem dT.congr{c n:Nat}{f lC:Nat->List UInt8}(h:dT H c n f)(e:∀i,i<n->lC i=f i):dT H c n lC:=let ⟨a,b,d,g⟩:=h;⟨a,b,d,λi a=>by rw[e i a];exact g i a⟩
theorem dT.put{m c n:Nat}{f:Nat->List UInt8}{bN:List Value}(g:bs pm H)(a:m<=c)(b:H.get c=some (.cells bN (.n 1)))(d:bN.length=n)(h:∀i,i<n->bN[i]? = some (aA (f i))){i:Nat}(aJ:i<n)(s:List UInt8):
 aF pm m H (H.put c (.cells (bN.set i (aA s)) (.n 1)))/\dT (H.put c (.cells (bN.set i (aA s)) (.n 1))) c n λj=>if j=i then s else f j:=by
 refine⟨aF.put (.refl g) a b (by simp) _,_,b1,by simp[d],λj k=>?_⟩;by_cases e:j=i
 ·subst e;rw[uX (by omega)];simp
 ·rw[sz (Ne.symm e),h j k];simp[e]
theorem dT.e7{c n b:Nat}{f:Nat->List UInt8}(h:dT H c n f)(a:b≠c)(x:bk):dT (H.put b x) c n f:=let ⟨d,e,g⟩:=h;⟨d,by rw[a7 (Ne.symm a)];exact e,g⟩
theorem dT.strs{c n:Nat}{f:Nat->List UInt8}(h:dT H c n f){cap:Nat}:iN H (.slice (some ⟨c,0,none⟩) n cap) ((List.range n).map f):=by
 obtain⟨b,d,_,e⟩:=h;refine⟨some ⟨c,0,none⟩,cap,by simp,λi a=>?_⟩;have a:i<n:=by simpa using a
 exact⟨c,0,_,b,_,rfl,d,rfl,by rw[Nat.zero_add];exact e i a,f i,by simp[a],rfl⟩
theorem vv(v:Value):∀n,(times [v] n).length=n
 | 0=>rfl
 | n+1=>by rw[times,ot,vv v n];simp;omega
theorem s5(v:Value):∀n i,i<n->(times [v] n)[i]? = some v
 | n+1,0,_=>by simp[times]
 | n+1,i+1,_=>by
   have:=s5 v n i (by omega);simpa [times]using this
theorem LO(g:ep X)(d:bs pm aj){n:Nat}(j:n<=1000):Call X pm F.nC [.int .i64 (n:Int)] aj λr aa=>K pm aj aa/\∃c,r=.slice (some ⟨c,0,none⟩) n n/\aj.next<=c/\dT aa c n λ_=>[48]:=by
 refine Call.P g.nC rfl λ_ h=>?_;simp[lK d.tobR (show n<=1073741824 by omega) (show 16*n<=17179869184 by omega),-Fs];obtain⟨c,f⟩:∃c,c=aj.next:=⟨_,rfl⟩;have a:K pm aj (aj.new (.cells (times [aA []] n) (.n 1))):=K.new d _;have e:dT (aj.new (.cells (times [aA []] n) (.n 1))) c n λi=>if i<0 then[48] else[]:=⟨_,by rw[f];exact b4,vv _ n,λi b=>by simpa using s5 (aA []) n i b⟩
 have g:pm.may c=true:=d.may (by omega);rw[<-f];refine eE (σ:=Unit) n (λ_ _=>[(3,.slice (some ⟨c,0,none⟩) n n)]) (λk _ aa=>K pm aj aa/\dT aa c n λi=>if i<k then[48] else[]) () (by decide) (by omega) (by simp) ⟨a,e⟩ (by simp) ?_ ?_
 ·rintro k _ _ d ⟨a,j,f,l,n⟩;obtain⟨o,p⟩:=dT.put (m:=aj.next) a.h (by omega) f l n d [48];simp[f,d,g,show k<j.length by omega];refine⟨aF.trans a o,p.congr λi b=>?_⟩;by_cases c:i=k
  ·subst c;simp
  ·by_cases d:i<k
   ·simp[c,d,show i<k+1 by omega]
   ·simp[c,d,show ¬i<k+1 by omega]
 ·rintro _ _ ⟨a,e⟩;simp;refine h _ _ _ ?_;simp;exact⟨a,by omega,e.congr λi b=>by simp[b]⟩
section
variable{P:bu}{ak:Nat}{ai:Nat->Nat}{lc bo:Value}{T:bd}{c:Nat->Rat}{ab:aI}
theorem Ke(h:ep X)(d:bs pm aj)(s:ab.ok)(l:kC ab P c)(n:cl P ak aj ai lc bo T)(u:gC aj lc ab.a){t:Nat}(v:t<=20000)(w:gQ P T t):
 Call X pm F.nz [.pointer (some ⟨ai 0,0,none⟩)] aj λr aa=>K pm aj aa/\∃c,r=.slice (some ⟨c,0,none⟩) P.n P.n/\aj.next<=c/\dT aa c P.n λj=>cZ (T.v j):=by
 refine Call.P h.nz rfl λ_ t=>?_;have o:=l.ok s;have s:=o.n;have s:=o.m;obtain⟨_,_,rfl,_⟩:=u.at;have o:=n.t;simp only[<-l.n]at o;simp[o,lK d.tobR (show P.n<=1073741824 by omega) (show 16*P.n<=17179869184 by omega),-E0];obtain⟨e,p⟩:∃c,c=aj.next:=⟨_,rfl⟩;have a:K pm aj (aj.new (.cells (times [aA []] P.n) (.n 1))):=K.new d _;have g:dT (aj.new (.cells (times [aA []] P.n) (.n 1))) e P.n λi=>if i<0 then cZ (T.v i) else[]:=⟨_,by rw[p];exact b4,vv _ P.n,λi f=>by simpa using s5 (aA []) P.n i f⟩
 have x:pm.may e=true:=d.may (by omega);rw[<-p];refine eE (σ:=Unit) P.n (λ_ _=>[(0,.pointer (some ⟨ai 0,0,none⟩)),(3,.slice (some ⟨e,0,none⟩) P.n P.n)]) (λk _ aa=>K pm aj aa/\dT aa e P.n λi=>if i<k then cZ (T.v i) else[]) () (by decide) (by omega) (by simp) ⟨a,g⟩ (by simp) ?_ ?_
 ·rintro k _ l j ⟨a,r,q,y,z⟩;have e:=n.k d a;have d:=e.t;rw[cO (b:=ai 1) (show 0<P.n+P.m by omega)]at d;obtain⟨az,n,_,o⟩:=e.v (by omega);obtain⟨_,_,e,_,c,p,s⟩:=o k (by omega);simp[d,n,p,show k<P.n+P.m by omega,-E1];refine aq.of (az:=[e]) (by simp) (by simp) (tv h.tozg a.h s.v.of ((w.v k (by omega)).v.bw (aY v (by decide)))) ?_;rintro _ l ⟨rfl,rfl⟩;obtain⟨d,e⟩:=dT.put (m:=aj.next) a.h (by omega) q y z j (cZ (T.v k));simp[q,j,x,show k<r.length by omega];refine⟨aF.trans a d,e.congr λi f=>?_⟩;by_cases e:i=k
  ·rw[e];simp
  ·by_cases c:i<k
   ·simp[e,c,show i<k+1 by omega]
   ·simp[e,c,show ¬i<k+1 by omega]
 ·rintro _ _ ⟨a,g⟩;simp;refine t _ _ _ ?_;simp;exact⟨a,by omega,g.congr (lC:=λj=>cZ (T.v j)) λi f=>by simp[f]⟩
end
section
variable{P:bu}{ak:Nat}{ai:Nat->Nat}{lc bo:Value}{T:bd}{c:Nat->Rat}{ab:aI}
def kF(P:bu)(T:bd)(d:Nat->Rat):Nat->Nat->List UInt8
 | 0,_=>[48]
 | k+1,i=>if T.a k=P.n+i then cZ (d k) else kF P T d k i
theorem Hj(o:ep X)(h:bs pm aj)(D:ab.ok)(j:kC ab P c)(s:cl P ak aj ai lc bo T)(E:gC aj lc ab.a)(G:iM aj bo ab.rows)(H:dx P T){d:Nat->Rat}{w:Value}(I:mm aj w P.n d){jj:Nat}(J:jj<=30000000)(L:∀k,k<P.n->aS (d k) jj):
 Call X pm F.nu [.pointer (some ⟨ai 0,0,none⟩),w] aj λr aa=>K pm aj aa/\∃c,r=.slice (some ⟨c,0,none⟩) P.m P.m/\aj.next<=c/\dT aa c P.m (kF P T d P.n):=by
 refine Call.P o.nu rfl λ_ M=>?_;have t:=j.ok D;have D:=t.n;have D:=t.m;have N:jj<=fo:=aY J (by decide);obtain⟨_,_,rfl,_⟩:=E.at;obtain⟨_,_,rfl,_⟩:=G.at;obtain⟨O,Q,rfl,R⟩:=I.ex;have p:=s.t;simp only[<-j.n,<-j.m]at p;simp[p,-D7,-D8];refine aq.of (az:=[.int .i64 (P.m:Int)]) (by simp) (by simp) (LO o h (n:=P.m) (by omega)) ?_;rintro _ _ ⟨u,e,rfl,q,D⟩;have S:∀t,Perm.may ⟨pm.ah,pm.ok,t⟩ e=true:=λt=>eG (aY h.ah q);obtain⟨E,G,U⟩:=k9 (ai 3) P.n;have t:=u.some h p;rw[G]at t;simp[t,-D6];refine eE (σ:=Unit) P.n (λ_ _=>[(0,.pointer (some ⟨ai 0,0,none⟩)),(1,.slice O P.n Q),(5,.slice (some ⟨e,0,none⟩) P.m P.m),(18,.slice E P.n P.n)]) (λk _ aa=>K pm aj aa/\dT aa e P.m (kF P T d k)) () (by decide) (by omega) (by simp) ⟨u,D⟩ (by simp) ?_ ?_
 ·rintro k _ r b ⟨f,v,l,w,x⟩;obtain rfl:=U (by omega);have a:=f.h;have p:=s.k h f;have g:=p.t;simp only[<-j.n,<-j.m]at g;obtain⟨_,y,_,j⟩:=p.c (by omega);have n:=j k b;have j:=H.c k b;by_cases F:P.n<=T.a k
  ·obtain⟨i,z⟩:∃i,T.a k=P.n+i:=⟨T.a k-P.n,by omega⟩;have A:i<P.m:=by omega
   obtain⟨_,_,_,_,T,rfl,j,V,W,p⟩:=R k b;have B:=f.some h j;have C:=p.up f;have X:=a.lt g;have Y:=a.lt B;have Z:=a.lt l;rw[z]at n;have aa:wr .i64 ((P.n:Int)+(i:Int)-(P.n:Int))=(i:Int):=by
    rw[b8 (by omega) (by omega)];omega
   simp[y,n,b,g];refine⟨λ_=>?_,λ_=>by omega⟩;refine cy.of a.ah rfl ?_;have c:K pm r (r.up 16):=(K.refl a).up 16;simp[b7,a.none,a.J,g,B,V,W,b,aa];have ab:=c.some a l;have ad:=λm=>lz (C.up c) (c.some a g) m;refine eM c.h (az:=[T]) (by simp[a.none]) (by simp) (by simp) rfl (λ_ h=>jR h (tv o.tozg h (C.up c).of ((L k b).bw N))) ?_;rintro _ _-⟨rfl,rfl⟩;obtain⟨h,j⟩:=dT.put (m:=aj.next) c.h q ab w x A (cZ (d k));simp[a.none,l,A,S,show i<v.length by omega,cj,cd,X,Y,Z, dM,ad];refine⟨aF.trans (K.trans f c) h,j.congr λj _=>?_⟩;rw[kF,z];by_cases e:j=i
   ·simp[e]
   ·rw[aC (by omega),aC e]
  ·simp[y,n,b,g];refine⟨λh=>absurd h F,λ_=>⟨f,v,l,w,λi a=>?_⟩⟩;rw[x i a,kF,aC (by omega)]
 ·rintro _ _ ⟨a,b⟩;simp;refine M _ _ _ ?_;simp;exact⟨a,q,b⟩
end
section
variable{P:bu}{ak:Nat}{ai:Nat->Nat}{lc bo:Value}{T:bd}{c:Nat->Rat}{ab:aI}
def l4(P:bu)(T:bd)(a k:Nat):Rat:=if 0<off P T.v (T.rows a) then -T.M a k else T.M a k
def k8(P:bu)(T:bd)(a i:Nat):List UInt8:=if T.rows a=P.n+i then(if 0<off P T.v (T.rows a) then[49] else[45,49]) else kF P T (l4 P T a) P.n i
theorem SO(o:ep X)(f:bs pm aj)(I:ab.ok)(v:kC ab P c)(j:cl P ak aj ai lc bo T)(J:gC aj lc ab.a)(W:iM aj bo ab.rows)(L:dx P T){t:Nat}(N:t<=20000)(p:gQ P T t){a:Nat}(g:a<P.m):
 Call X pm F.oR [.pointer (some ⟨ai 0,0,none⟩),.int .i64 (a:Int)] aj λr aa=>K pm aj aa/\∃c,r=.slice (some ⟨c,0,none⟩) P.m P.m/\aj.next<=c/\dT aa c P.m (k8 P T a):=by
 refine Call.P o.oR rfl λ_ w=>?_;have x:=v.ok I;have M:=x.n;have M:=x.m;have q:0<P.m:=by omega
 have M:0<P.n+P.m:=by omega
 have Y:t<=fo:=aY N (by decide);have N:=j.t;rw[cO (b:=ai 1) M,cO (b:=ai 2) q]at N;obtain⟨_,Z,_,x⟩:=j.r q;have ab:=x a g;have x:=L.r a g;obtain⟨az,va,vb,vc,v1,v2,v3⟩:=(j.v M).load x;simp[N,Z,ab,g,v1,v2,x,-Fl,-Fi];refine aq.of (az:=[.agg #[va,vb,vc]]) (by simp) (by simp[bB]) (BV o f v3 (p.v _ x) (by omega)) ?_;rintro _ y ⟨s,rfl⟩;have n:=s.h;have x:=j.k f s;have z:=x.t;obtain⟨_,M,_⟩:=k9 (ai 3) P.n;rw[M,cO (b:=ai 4) q]at z;obtain⟨_,m1,_,M⟩:=x.m q;have ae:=M a g;obtain⟨h,A⟩:∃c,c=y.next:=⟨_,rfl⟩;obtain⟨u,B⟩:∃u,u=y.new (.cells (times [.pointer none] P.n) (.n 1)):=⟨_,rfl⟩;have q:K pm y u:=by rw[B];exact K.new n _
 have x:=q.h;have O:pm.may h=true:=n.may (by omega);have Q:aj.next<=h:=by rw[A];exact s.next
 simp[z,lK n.tobR (show P.n<=1073741824 by omega) (show 8*P.n<=17179869184 by omega),<-B,<-A,q.some n z,q.some n m1,ae,g,-Fh,-Fk];have n:=s.trans q;have q:dI u h P.n 0 (l4 P T a):=⟨_,by rw[B,A];exact b4,vv _ P.n,λi d=>absurd d (hz _)⟩;have s:∀(aa:ad),ai (5+a)≠h:=λ_=>by
  have:=j.lt f g;omega
 refine eE (σ:=Unit) P.n (λ_ _=>[(0,.pointer (some ⟨ai 0,0,none⟩)),(1,.int .i64 (a:Int)),(5,.int .i64 (T.rows a:Int)),(6,.bool (decide (0<off P T.v (T.rows a)))),(7,.slice (some ⟨h,0,none⟩) P.n P.n),(39,.slice (some ⟨ai (5+a),0,none⟩) P.n P.n)]) (λk _ aa=>K pm aj aa/\dI aa h P.n k (l4 P T a)) () (by decide) (by omega) (by simp) ⟨n,q⟩ (by simp) ?_ ?_
 ·rintro k _ S c ⟨e,n⟩;have q:=e.h;obtain⟨_,T,_,s⟩:=(j.k f e).row a g;obtain⟨_,U,l⟩:=s k c;obtain⟨E,F,s,u⟩:=n;obtain⟨b,t⟩:=dI.put (m:=aj.next) q Q F s u c l (dd:=k+1) (λi d=>by omega);obtain⟨G,rfl,_⟩:=id l;obtain⟨n,H⟩:∃n,n=S.put h (.cells (E.set k (.pointer (some ⟨G,0,none⟩))) (.n 1)):=⟨_,rfl⟩;rw[<-H]at b t;simp[T,U,c,F,O,show k<E.length by omega,<-H,-Fo];refine⟨λV=>?_,λ_=>⟨aF.trans e b,t.congr λC X=>?_⟩⟩
  ·have n:=l.up b;refine aq.of (az:=[.pointer (some ⟨G,0,none⟩)]) (by simp) (by simp) (wa o.tozg b.h n.of ((p.M a k g c).bw Y)) ?_;rintro r _ ⟨D,K⟩;obtain⟨es,P,l,n⟩:=t.k b.h D;obtain⟨u6,d6⟩:=dI.put (m:=aj.next) D.h Q P l n c K (dd:=k+1) (λi d=>by omega);obtain⟨_,rfl,_⟩:=id K;simp[P,c,O,show k<es.length by omega];refine⟨aF.trans ((aF.trans e b).trans (D.mono (aY e.next b.next))) u6,d6.congr λC X=>?_⟩;by_cases R:C=k
   ·subst R;simp[l4,V]
   ·simp[R]
  ·by_cases a:C=k
   ·subst a;simp[l4];omega
   ·simp[a]
 ·rintro _ _ ⟨c,X⟩;have g3:=c.h;have t3:=j.k f c;have aa:∀k,k<P.n->aS (l4 P T a k) t:=λk R=>by
   unfold l4;split
   ·exact oF (p.M a k g R)
   ·exact p.M a k g R
  simp[-Fm,-Fj];refine aq.of (az:=[.pointer (some ⟨ai 0,0,none⟩),.slice (some ⟨h,0,none⟩) P.n P.n]) (by simp) (by simp) (Hj o g3 I v t3 (J.ext (c.ext f)) (W.ext (c.ext f)) L X.row (jj:=t) (by omega) aa) ?_;rintro _ C ⟨S,e,rfl,he,U⟩;have D:=c.trans S;have r:=D.some f j.t;obtain⟨_,_,rfl,_⟩:=J.at;simp only[<-v.n]at r;have l:aj.next<=e:=aY c.next he;have ad:pm.may e=true:=f.may l;by_cases hx:P.n<=T.rows a
  ·obtain⟨i,d⟩:∃i,T.rows a=P.n+i:=⟨T.rows a-P.n,by omega⟩;have t:i<P.m:=by omega
   have af:wr .i64 ((P.n:Int)+(i:Int)-(P.n:Int))=(i:Int):=by
    rw[b8 (by omega) (by omega)];omega
   obtain⟨E,V,c,g⟩:=U;obtain⟨F,G⟩:=dT.put (m:=aj.next) S.h l V c g t [45,49];obtain⟨b,H⟩:∃b,b=C.put e (.cells (E.set i (aA [45,49])) (.n 1)):=⟨_,rfl⟩;rw[<-H]at F G;obtain⟨g,k,n,o⟩:=id G;have c:=λy (h:C.get (ai 0)=some y)=>show b.get (ai 0)=some y by
    rw[H,a7 (by have:=f.lt j.t;omega)];exact h
   have c:=c _ r;obtain⟨p,q⟩:=dT.put (m:=aj.next) F.h l k n o t [49];have f:K pm aj b:=aF.trans D F;rw[d];simp[r];refine⟨λ_=>?_,λh=>by omega⟩;have j:C.put e (.cells (E.set i (.string ⟨#[45,49]⟩)) (.n 1))=b:=H.symm;simp[af,t,V,ad,show i<E.length by omega,j,c,k,show i<g.length by omega];have c:(decide (0<off P T.v (T.rows a))=false)->dT b e P.m (k8 P T a):=λh=>G.congr λj n=>by
    rw[k8,d];by_cases e:j=i
    ·have h:¬0<off P T.v (T.rows a):=by simpa using h
     rw[d]at h;simp[e,h]
    ·rw[aC (by omega),aC e]
   have k:(0<off P T.v (T.rows a))->dT (b.put e (.cells (g.set i (aA [49])) (.n 1))) e P.m (k8 P T a):=λh=>q.congr λj n=>by
    rw[k8,d];by_cases e:j=i
    ·rw[d]at h;simp[e,h]
    ·rw[aC (by omega),aC e,aC e]
   rw[d]at c k;refine⟨λh=>?_,λh=>?_⟩
   ·refine w _ _ _ ?_;simp;exact⟨aF.trans f p,l,k h⟩
   ·refine w _ _ _ ?_;simp;exact⟨f,l,c (by simpa using h)⟩
  ·simp[r];refine⟨λh=>absurd h hx,λ_=>?_⟩;refine w _ _ _ ?_;simp;refine⟨D,l,U.congr (lC:=k8 P T a) λi d=>?_⟩;rw[k8,aC (by omega)]
end
section
variable{P:bu}{ak:Nat}{ai:Nat->Nat}{lc bo:Value}{T:bd}{c:Nat->Rat}{ab:aI}
def pH(T:bd)(af:Nat)(aG:Int):Nat->Nat->List UInt8
 | 0,x=>if x=T.a af then cZ (aG:Rat) else[48]
 | i+1,x=>if x=T.rows i then cZ (T.M i af*(aG:Rat)) else pH T af aG i x
theorem R7(e:ep X)(j:bs pm aj)(L:ab.ok)(v:kC ab P c)(l:cl P ak aj ai lc bo T)(hc:gC aj lc ab.a)(z:dx P T){t:Nat}(ht:t<=20000)(hs:gQ P T t){af:Nat}(f:af<P.n){aG:Int}(ae:aG=1∨aG=-1):
 Call X pm F.oQ [.pointer (some ⟨ai 0,0,none⟩),.int .i64 (af:Int),.int .i64 aG] aj λr aa=>K pm aj aa/\∃c,r=.slice (some ⟨c,0,none⟩) P.n P.n/\aj.next<=c/\dT aa c P.n (pH T af aG P.m):=by
 refine Call.P e.oQ rfl λab hQ=>?_;have A:=v.ok L;have L:=A.n;have L:=A.m;have B:0<P.n:=by omega
 have ag:t<=fo:=aY ht (by decide);have w:aS (aG:Rat) 1:=by
  rcases ae with rfl | rfl<;>exact⟨by decide,by decide⟩
 obtain⟨_,_,rfl,_⟩:=hc.at;have A:=l.t;simp only[<-v.n]at A;simp[A,-E3,-E5];refine aq.of (az:=[.int .i64 (P.n:Int)]) (by simp) (by simp) (LO e j (n:=P.n) (by omega)) ?_;rintro _ _ ⟨o,k,rfl,p,C⟩;have D:=o.h;have E:∀A,Perm.may ⟨pm.ah,pm.ok,A⟩ k=true:=λA=>eG (aY j.ah p);have A:=l.k j o;have q:=A.t;simp only[<-v.n]at q;rw[cO (b:=ai 3) B]at q;obtain⟨_,G,_,v⟩:=A.c B;have H:=v af f;have v:=z.c af f;have I:∀(g:ad) (L:bb),K pm aj g->dT g k P.n (pH T af aG 0)->aK 0 L=some (.pointer (some ⟨ai 0,0,none⟩))->aK 1 L=some (.int .i64 (af:Int))->aK 2 L=some (.int .i64 aG)->aK 7 L=some (.slice (some ⟨k,0,none⟩) P.n P.n)->wp X pm (.code q3) L g [] ab:=by
  intro g L v L A l1 l2 l7;have B:=v.h;have B:=v.some j l.t;obtain⟨b2,e2,ad⟩:=k9 (ai 2) P.m;rw[e2]at B;simp[A,B,-E2];refine eE (σ:=Unit) P.m (λ_ _=>[(0,.pointer (some ⟨ai 0,0,none⟩)),(1,.int .i64 (af:Int)),(2,.int .i64 aG),(7,.slice (some ⟨k,0,none⟩) P.n P.n),(38,.slice b2 P.m P.m)]) (λi _ aa=>K pm aj aa/\dT aa k P.n (pH T af aG i)) () (by decide) (by omega) (by simp[A,l1,l2,l7]) ⟨v,L⟩ (by simp) ?_ ?_
  ·rintro i _ F c ⟨r,J,x,M,N⟩;obtain rfl:=ad (by omega);have a:=r.h;have k:=l.k j r;obtain⟨_,O,_,j⟩:=k.r (by omega);have Q:=j i c;have j:=z.r i c;by_cases d:T.rows i<P.n
   ·have y:=k.t;rw[cO (b:=ai 4) (show 0<P.m by omega)]at y;obtain⟨_,R,_,j⟩:=k.m (by omega);have aa:=j i c;obtain⟨_,S,_,j⟩:=k.row i c;obtain⟨pc,ah,ak⟩:=j af f;have q0:=a.lt y;have q1:=a.lt R;have q2:=a.lt S;have q3:=a.lt x;have U:=hs.M i af c f;simp[O,Q,c,d];refine cy.of a.ah rfl ?_;have V:K pm F (F.up 18):=(K.refl a).up 18;simp[b7,a.none,a.J,y,R,aa,c,S,ah,f];refine eM V.h (az:=[.int .i64 aG]) (by simp[a.none]) (by simp) (by simp) rfl (λW h=>o0 e.tozg h (n:=aG) (by omega) (by omega)) ?_;rintro j _ s f6;have k:=s.res a;have X:=V.trans s;simp;refine gS s.h (az:=[pc,j]) (by simp[k]) (by simp) (by simp) rfl (λW h=>pY e.tozg h (ak.up X).of f6.of (U.bw ag) (w.bw (by decide))) ?_;rintro j _ u f7;have Y:=(K.trans s u).res a;have Z:=X.trans u;simp;refine gS u.h (az:=[j]) (by simp[Y]) (by simp) (by simp) rfl (λW h=>jR h (tv e.tozg h f7.of ((kt U w).bw (aY (show t+1<=30000 by omega) (by decide))))) ?_;rintro _ _-⟨rfl,rfl⟩;have h:=Z.some a x;obtain⟨a,j⟩:=dT.put (m:=aj.next) u.h p h M N d (cZ (T.M i af*(aG:Rat)));simp[Y,h,d,E,show T.rows i<J.length by omega,cj,cd,q0,q1,q2,q3,jT,dM,ed];refine⟨aF.trans (r.trans Z) a,j.congr λ_ _=>?_⟩;rw[pH]
   ·simp[O,Q,c,d];refine⟨r,J,x,M,λj a=>?_⟩;rw[N j a,pH,aC (by omega)]
  ·rintro _ _ ⟨a,b⟩;simp;refine hQ _ _ _ ?_;simp;exact⟨a,p,b⟩
 by_cases d:T.a af<P.n
 ·simp[q,G,H,f,d,-q3,-E4];refine aq.of (az:=[.int .i64 aG]) (by simp) (by simp) (o0 e.tozg D (n:=aG) (by omega) (by omega)) ?_;rintro r g ⟨a,b⟩;simp[-q3,-E6];refine aq.of (az:=[r]) (by simp) (by simp) (tv e.tozg a.h b.of (w.bw (by decide))) ?_;rintro _ g ⟨rfl,rfl⟩;obtain⟨c,b,e,g⟩:=C.k D a;obtain⟨h,i⟩:=dT.put (m:=aj.next) a.h p b e g d (cZ (aG:Rat));have e:=E pm.num;simp[b,d,e,show T.a af<c.length by omega,-q3];refine I _ _ (aF.trans (o.trans a) h) i (by simp) (by simp) (by simp) (by simp)
 ·simp[q,G,H,f,d,-q3];refine I _ _ o (C.congr λ_ _=>?_) (by simp) (by simp) (by simp) (by simp);rw[pH,aC (by omega)]
end
def hX(f:Nat->Rat)(c:dq):Nat->Rat:=λj=>if j=c.af.toNat then rd c.v else f j
def hV(l:List dq):Nat->Rat:=l.foldl hX λ_=>0
def aI.q(ab:aI):bu where
 n:=ab.a.length
 m:=ab.rows.length
 ah:=λx=>if x<ab.a.length then fc (ab.af x).low else if(ab.row (x-ab.a.length)).kind=1 then none else fc (ab.row (x-ab.a.length)).rhs
 up:=λx=>if x<ab.a.length then fc (ab.af x).up else if(ab.row (x-ab.a.length)).kind=3 then none else fc (ab.row (x-ab.a.length)).rhs
 A:=λi j=>hV (ab.row i).j j
def aI.cs(ab:aI)(j:Nat):Rat:=rd (ab.af j).cost
def aI.v0(ab:aI)(x:Nat):Rat:=pN (fc (ab.af x).low) (fc (ab.af x).up)
def aI.L(ab:aI):bd where
 v:=λx=>if x<ab.a.length then ab.v0 x else hI (ab.row (x-ab.a.length)).j ab.v0
 rows:=λi=>ab.a.length+i
 a:=λk=>k
 M:=λi j=>hV (ab.row i).j j
theorem aI.QT(ab:aI):kC ab ab.q ab.cs:=⟨rfl,rfl,λ_ _=>rfl⟩
def Real(b a c j:Nat):Prop:=j=0∨(j=1/\0<b)∨((j=2∨j=4)/\0<a)∨(j=3/\0<c)∨(5<=j/\j<5+a)
structure fB(P:bu)(ak:Nat)(H:ad)(ai:Nat->Nat)(lc bo:Value)(lJ ct c3:Nat)(T:bd):Prop where
 t:H.get (ai 0)=some (.cells [lc,bo,aP (ai 1) lJ,aP (ai 2) ct,aP (ai 3) c3,aP (ai 4) ct] (.t tyT))
 v:0<lJ->p1 H P (ai 1) lJ T.v
 r:0<ct->mq H (ai 2) ct T.rows
 c:0<c3->mq H (ai 3) c3 T.a
 m:0<ct->tk H (ai 4) ct P.n ai
 row:∀i,i<ct->dI H (ai (5+i)) P.n P.n (T.M i)
 inj:∀i j,Real lJ ct c3 i->Real lJ ct c3 j->ai i=ai j->i=j
 ge:∀i,Real lJ ct c3 i->ak<=ai i
section
variable{P:bu}{ak:Nat}{ai:Nat->Nat}{lc bo:Value}{T:bd}{lJ ct c3:Nat}
theorem fB.k(h:fB P ak H ai lc bo lJ ct c3 T)(g:bs pm H)(k:K pm H aa):fB P ak aa ai lc bo lJ ct c3 T where
 t:=k.some g h.t
 v:=λa=>(h.v a).ext k λ_ e=>k.some g e
 r:=λa=>(h.r a).ext λ_ e=>k.some g e
 c:=λa=>(h.c a).ext λ_ e=>k.some g e
 m:=λa=>(h.m a).ext λ_ e=>k.some g e
 row:=λi a=>(h.row i a).ext k λ_ e=>k.some g e
 inj:=h.inj
 ge:=h.ge
theorem fB.lt(h:fB P ak H ai lc bo lJ ct c3 T)(g:bs pm H){j:Nat}(b:Real lJ ct c3 j):ai j<H.next:=by
 rcases b with rfl | ⟨rfl,a⟩ | ⟨rfl | rfl,a⟩ | ⟨rfl,a⟩ | ⟨a,_⟩
 ·exact g.lt h.t
 ·obtain⟨_,e,_⟩:=h.v a;exact g.lt e
 ·obtain⟨_,e,_⟩:=h.r a;exact g.lt e
 ·obtain⟨_,e,_⟩:=h.m a;exact g.lt e
 ·obtain⟨_,e,_⟩:=h.c a;exact g.lt e
 ·obtain⟨i,rfl⟩:∃i,j=5+i:=⟨j-5,by omega⟩;obtain⟨_,e,_⟩:=h.row i (by omega);exact g.lt e
theorem fB.full(h:fB P ak H ai lc bo (P.n+P.m) P.m P.n T)(g:bs pm H)(A:ak<=H.next):∃e,e 0=ai 0/\cl P ak H e lc bo T:=by
 have m:∀o p k,(0<k->p=o)->aP p k=aP o k:=λo p k l=>by
  by_cases f:k=0
  ·subst f;rfl
  ·rw[l (by omega)]
 obtain⟨R,b⟩:∃R:Nat->Prop,R=Real (P.n+P.m) P.m P.n:=⟨_,rfl⟩;have B:∀j,Decidable (R j):=λj=>by rw[b];unfold Real;exact inferInstance
 obtain⟨e,l⟩:∃e:Nat->Nat,e=λj=>if R j then ai j else H.next+j:=⟨_,rfl⟩
 have a:∀j,R j->e j=ai j:=λj n=>by rw[l];simp[n]
 have s:R 0:=by rw[b];exact .inl rfl
 have t:∀i,i<P.m->R (5+i):=λi d=>by rw[b];exact .inr (.inr (.inr (.inr ⟨by omega,by omega⟩)))
 have u:0<P.n+P.m->R 1:=λh=>by rw[b];exact .inr (.inl ⟨rfl,h⟩)
 have v:0<P.m->R 2:=λh=>by rw[b];exact .inr (.inr (.inl ⟨.inl rfl,h⟩))
 have w:0<P.m->R 4:=λh=>by rw[b];exact .inr (.inr (.inl ⟨.inr rfl,h⟩))
 have x:0<P.n->R 3:=λh=>by rw[b];exact .inr (.inr (.inr (.inl ⟨rfl,h⟩)))
 refine⟨e,a 0 s,?_,λc=>?_,λc=>?_,λc=>?_,λc=>?_,λi d=>?_,λi j d n f=>?_,λi d=>?_⟩
 ·rw[a 0 s,m _ _ _ λh=>a 1 (u h),m _ _ _ λh=>a 2 (v h),m _ _ _ λh=>a 3 (x h),m _ _ _ λh=>a 4 (w h)];exact h.t
 ·rw[a 1 (u c)];exact h.v c
 ·rw[a 2 (v c)];exact h.r c
 ·rw[a 3 (x c)];exact h.c c
 ·rw[a 4 (w c)];obtain⟨g,q,r,y⟩:=h.m c;exact⟨g,q,r,λi d=>by rw[a _ (t i d)];exact y i d⟩
 ·rw[a _ (t i d)];exact h.row i d
 ·have lt:∀j,R j->ai j<H.next:=λj n=>h.lt g (b▸n);rw[l]at f;simp only at f;by_cases q:R i<;>by_cases r:R j<;>simp only[q,r,if_true,if_false]at f
  ·exact h.inj i j (b▸q) (b▸r) f
  ·have:=lt i q;omega
  ·have:=lt j r;omega
  ·omega
 ·rw[l];simp only;split
  ·rename_i z;exact h.ge i (b▸z)
  ·omega
end
def gG(H:ad)(c i:Nat):ad:=if i=0 then H else H.put c .dead
def p3(c i:Nat):List Nat:=if i=0 then[] else[c]
def p4(c i b:Nat):List Nat:=if i=0 then[b] else[c,b]
theorem gV{c i b:Nat}(h:0<i->b≠c):(gG H c i).get b=H.get b:=by
 unfold gG;split
 ·rfl
 ·rw[a7 (h (by omega))]
@[simp] theorem pb{c i:Nat}:(gG H c i).next=H.next:=by unfold gG;split<;>rfl
theorem rv{c i b x:Nat}(h:0<i->c≠x)(a:b≠x):du (p4 c i b) [x]=true:=by
 unfold p4;split
 ·exact fq a
 ·simp[du,h (by omega),a]
theorem w0{c i b x:Nat}(h:0<i->c≠x)(a:b≠x):du [x] (p4 c i b)=true:=by
 unfold p4;split
 ·exact fq (Ne.symm a)
 ·simp[du,Ne.symm (h (by omega)),Ne.symm a]
theorem wZ{c i y x:Nat}(h:0<i->c≠x)(a:y≠x):du [x] (y::p3 c i)=true:=by
 unfold p3;split
 ·exact fq (Ne.symm a)
 ·simp[du,Ne.symm (h (by omega)),Ne.symm a]
theorem tz{c i s x:Nat}(h:0<i->c<s)(a:x∈p3 c i):x<s:=by
 unfold p3 at a;split at a
 ·cases a
 ·simp at a;rw[a];exact h (by omega)
theorem aF.gG(u:aF pm n H aa){c i:Nat}{bN:List Value}{z:cz}(h:0<i->n<=c/\aa.get c=some (.cells bN z)):aF pm n H (C.gG aa c i):=by
 unfold C.gG;split
 ·exact u
 ·obtain⟨a,b⟩:=h (by omega);exact aF.put u a b (by simp) _
theorem tD{w cc c i ah b:Nat}{fx:List Nat}{bN xs:List Value}(h:0<i->H.get c=some (.cells bN (.n w))/\bN.length=i*w/\Perm.may ⟨ah,fx,some b⟩ c=true)(g:i=0->bN=[])(d:xs.all c6=true)(e:1<=w)(aJ:i<1000000)(j:cc<=200):
 (eN w cc (aP c i) xs 1).runT ⟨ah,fx,some b⟩ H=some (aP b (i+1),(gG H c i).put b (.cells (bN++xs) (.n w)),p3 c i,p4 c i b):=by
 have a:(i+1)*cc<=17179869184:=aY (lX _ j) (by omega);by_cases f:i=0
 ·subst f;rw[g rfl];unfold eN;simp at a;simp only[d,aP];simp[Perm.make,Perm.pick,a,e,gG,p3,p4];done
 ·obtain⟨b,c,g⟩:=h (by omega);have j:bx bN 0 (i*w)=some bN:=by rw[<-c];exact HN bN
  rw[cO (by omega),cO (by omega)];unfold eN;simp only[d];simp[Perm.make,Perm.pick,a,b,j,g,e,show ¬(i+1<=i) by omega,show i+1<=17179869184 by omega,gG,p3,p4,f];done
abbrev tyB:Nat:=T.TZ
abbrev tyX:Nat:=T.T2
section
variable{ak:Nat}{ai:Nat->Nat}{lc bo:Value}{ab:aI}
theorem Qq(_:ep X)(f:bs pm aj)(aH:pm.ah<=ak)(hn:ak<=aj.next)(ho:ab.ok)(_:ab.I=true){k:Nat}(hk:k<ab.a.length)(a:fB ab.q ak aj ai lc bo k 0 k ab.L){aE dr:Nat}{z:cz}{ee cn bP:Value}(_:ak<=dr)(ae:∀j,Real k 0 k j->ai j≠dr)
 (r:aj.get dr=some (.cells [ee,cn,bP] z)) (_:∀o,bk.cells [ee,cn,bP] z≠.cr o) (hv:jN aj ab.q ab.L.v k ee cn bP) (aI:[ee,cn,bP].all c6=true) {L:bb} (l1:aK 1 L=some (.pointer (some ⟨aE,0,none⟩))) (l3:aK 3 L=some (.pointer (some ⟨ai 0,0,none⟩))) (l4:aK 4 L=some (.int .i64 (k:Int))) (l6:aK 6 L=some (.pointer (some ⟨dr,0,none⟩))) {Dw:Value} (aJ:aK 18 L=some Dw)
 (aL:aK 19 L=some (.int .i64 (ab.a.length:Int))) (aM:aK 20 L=some (.int .i64 (k:Int))) {Q:b5}
 (aO:∀aN aa m,aF pm ak aj aa->(∀b,(∀j,Real k 0 k j->b≠ai j)->b<aj.next->aa.get b=aj.get b)->m 0=ai 0->fB ab.q ak aa m lc bo (k+1) 0 (k+1) ab.L->Sub [(20,.int .i64 (k:Int)),(19,.int .i64 (ab.a.length:Int)),(1,.pointer (some ⟨aE,0,none⟩)),(3,.pointer (some ⟨ai 0,0,none⟩)),(18,Dw)] aN->Q .normal aN aa):
 wp X pm (.code vI) L aj [] Q:=by
 have a_:=ho.c;obtain⟨s,hs⟩:∃s,s=aj.next:=⟨_,rfl⟩;have U:=f.none;have av:=f.J;rw[<-hs]at U av;have af:=a.t;have n:Real k 0 k 0:=.inl rfl;have t:0<k->Real k 0 k 1:=λh=>.inr (.inl ⟨rfl,h⟩);have u:0<k->Real k 0 k 3:=λh=>.inr (.inr (.inr (.inl ⟨rfl,h⟩)));have la:=a.lt f n;have M:=λh=>a.lt f (t h);have E:=λh=>a.lt f (u h);have a_:=f.lt r;have aQ:ai 0<s:=by omega
 have aR:dr<s:=by omega
 have ag:0<k->ai 0≠ai 1:=λh e=>absurd (a.inj 0 1 n (t h) e) (by decide);have aS:0<k->ai 0≠ai 3:=λh e=>absurd (a.inj 0 3 n (u h) e) (by decide);have aw:0<k->ai 1≠ai 3:=λh e=>absurd (a.inj 1 3 (t h) (u h) e) (by decide);have a_:=ae 0 n;have a_:=λh=>ae 1 (t h);have a_:=λh=>ae 3 (u h);have al:∀o b,ak<=b->Perm.may ⟨pm.ah,pm.ok,o⟩ b=true:=λo b h=>eG (aY aH h);obtain⟨d,N,ax⟩:∃d,(0<k->aj.get (ai 1)=some (.cells d (.n 3))/\d.length=k*3/\∀x,x<k->∃V W c,d[x*3]? = some V/\d[x*3+1]? = some W/\d[x*3+2]? = some c/\jN aj ab.q ab.L.v x V W c)/\(k=0->d=[]):=by
  by_cases e:k=0
  ·exact⟨[],λh=>by omega,λ_=>rfl⟩
  ·obtain⟨bN,O⟩:=a.v (by omega);exact⟨bN,λ_=>O,λh=>absurd h e⟩
 obtain⟨g,P,ay⟩:∃g,(0<k->aj.get (ai 3)=some (.cells g (.n 1))/\g.length=k/\∀i,i<k->g[i]? = some (.int .i64 (ab.L.a i:Int)))/\(k=0->g=[]):=by
  by_cases e:k=0
  ·exact⟨[],λh=>by omega,λ_=>rfl⟩
  ·obtain⟨bN,O⟩:=a.c (by omega);exact⟨bN,λ_=>O,λh=>absurd h e⟩
 simp;refine cy.of f.ah rfl ?_;obtain⟨q,v⟩:∃A,A=(aj.up 22).put (s+7) (.cells [ee,cn,bP] (.n 3)):=⟨_,rfl⟩;have az:K pm aj (aj.up 22):=(K.refl f).up 22;have Y:K pm aj q:=by rw[v];exact aF.fill az (by omega) (by show aj.get _=none;exact U 7) (by show s+7<aj.next+22;omega) _
 have an:∀j,j≠7->q.get (s+j)=none:=λj p=>by rw[v,a7 (by omega)];exact U j
 have aT:q.get (s+7)=some (.cells [ee,cn,bP] (.n 3)):=by rw[v];exact b1
 have Z:=tD (H:=q) (w:=3) (cc:=24) (c:=ai 1) (i:=k) (ah:=pm.ah) (fx:=pm.ok) (b:=s+8) (bN:=d) (xs:=[ee,cn,bP]) (λh=>⟨Y.some f (N h).1,(N h).2.1,al _ _ (a.ge 1 (t h))⟩) ax aI (by decide) (by omega) (by decide);obtain⟨R,F⟩:∃A,A=(gG q (ai 1) k).put (s+8) (.cells (d++[ee,cn,bP]) (.n 3)):=⟨_,rfl⟩;rw[<-F]at Z;have ao:∀j,8<j->R.get (s+j)=none:=λj p=>by rw[F,a7 (by omega),gV (λh=>by have:=M h;omega)];exact an j (by omega)
 have aA:∀b,b<s->(0<k->b≠ai 1)->R.get b=aj.get b:=λb l S=>by
  rw[F,a7 (by omega),gV S,v,a7 (by omega)];rfl
 have aU:=(aA (ai 0) (by omega) ag).trans af;obtain⟨B,C⟩:∃A,A=R.put (s+14) (.cells [.int .i64 (k:Int)] (.n 1)):=⟨_,rfl⟩;have aq:∀j,14<j->B.get (s+j)=none:=λj p=>by rw[C,a7 (by omega)];exact ao j (by omega)
 have aV:B.get (s+14)=some (.cells [.int .i64 (k:Int)] (.n 1)):=by rw[C];exact b1
 have ar:∀b,b<s->(0<k->b≠ai 1)->B.get b=aj.get b:=λb l S=>by rw[C,a7 (by omega)];exact aA b l S
 have e3:=tD (H:=B) (w:=1) (cc:=8) (c:=ai 3) (i:=k) (ah:=pm.ah) (fx:=pm.ok) (b:=s+15) (bN:=g) (xs:=[.int .i64 (k:Int)]) (λh=>⟨(ar _ (by have:=E h;omega) λh=>(aw h).symm).trans (P h).1,by simpa using(P h).2.1,al _ _ (a.ge 3 (u h))⟩) ay (by rfl) (by decide) (by omega) (by decide);obtain⟨A4,G⟩:∃A,A=(gG B (ai 3) k).put (s+15) (.cells (g++[.int .i64 (k:Int)]) (.n 1)):=⟨_,rfl⟩;rw[<-G]at e3;have aB:∀j,15<j->A4.get (s+j)=none:=λj p=>by rw[G,a7 (by omega),gV (λh=>by have:=E h;omega)];exact aq j (by omega)
 have aC:∀b,b<s->(0<k->b≠ai 1)->(0<k->b≠ai 3)->A4.get b=aj.get b:=λb l S ae=>by
  rw[G,a7 (by omega),gV ae];exact ar b l S
 have aD:=(aC (ai 0) (by omega) ag aS).trans af;obtain⟨A5,D⟩:∃A,A=A4.put (ai 0) (.cells [lc,bo,aP (s+8) (k+1),aP (ai 2) 0,aP (ai 3) k,aP (ai 4) 0] (.t tyT)):=⟨_,rfl⟩;have aW:∀j,15<j->A5.get (s+j)=none:=λj p=>by rw[D,a7 (by omega)];exact aB j p
 have aG:A5.get (ai 0)=some (.cells [lc,bo,aP (s+8) (k+1),aP (ai 2) 0,aP (ai 3) k,aP (ai 4) 0] (.t tyT)):=by rw[D];exact b1
 obtain⟨T,I⟩:∃A,A=A5.put (ai 0) (.cells [lc,bo,aP (s+8) (k+1),aP (ai 2) 0,aP (s+15) (k+1),aP (ai 4) 0] (.t tyT)):=⟨_,rfl⟩;have aX:=λo=>al o _ (a.ge 0 n);have aZ:∀b i,c6 (aP b i)=true:=λb i=>by unfold aP;split<;>rfl
 have a1:∀b i,(aP b i).cells=#[aP b i]:=λb i=>by unfold aP;split<;>rfl
 simp[b7,<-hs,U,av,l3,l4,l6,af,r,bx,bB,Perm.make,Perm.pick,<-v,an,aT,Z,ao,aU,<-C,aq,aV,e3,aB,aD,aX,aZ,a1,<-D,aW,aG,<-I,cj,cd, dM,fq (show s+7≠ai 0 by omega),fq (show s+14≠ai 0 by omega), fq (show s+14≠dr by omega),rv (c:=ai 1) (i:=k) (b:=s+8) (x:=ai 0) (λh=>(ag h).symm) (by omega), w0 (c:=ai 1) (i:=k) (b:=s+8) (x:=s+14) (λh=>by have:=M h;omega) (by omega),wZ (c:=ai 1) (i:=k) (y:=s+7) (x:=s+14) (λh=>by have:=M h;omega) (by omega),aQ,aR];refine⟨⟨λx r=>.inl (.inl (.inl (tz (λh=>by have:=M h;omega) r))),λx r=>.inl (.inl (.inl (tz (λh=>by have:=E h;omega) r)))⟩,?_⟩;have A:aF pm ak aj q:=Y.mono hn;have S:aF pm ak aj R:=by
  rw[F];exact aF.fill (aF.gG A λh=>⟨a.ge 1 (t h),Y.some f (N h).1⟩) (by omega) (by rw[gV (λh=>by have:=M h;omega)];exact an 8 (by decide)) (by rw[pb];have:=az.next;have:=Y.next;show s+8<q.next;rw[v];show s+8<aj.next+22;omega) _
 have f:q.next=s+22:=by rw[v];show aj.next+22=_;omega
 have q:R.next=s+22:=by rw[F,Ct,pb];exact f
 have f:aF pm ak aj B:=by rw[C];exact aF.fill S (by omega) (ao 14 (by decide)) (by omega) _
 have v:B.next=s+22:=by rw[C];exact q
 have q:aF pm ak aj A4:=by
  rw[G];exact aF.fill (aF.gG f λh=>⟨a.ge 3 (u h),(ar _ (by have:=E h;omega) λh=>(aw h).symm).trans (P h).1⟩) (by omega) (by rw[gV (λh=>by have:=E h;omega)];exact aq 15 (by decide)) (by rw[pb];omega) _
 have f:aF pm ak aj A5:=by rw[D];exact aF.put q (a.ge 0 n) aD (by simp) _
 have u6:aF pm ak aj T:=by rw[I];exact aF.put f (a.ge 0 n) aG (by simp) _
 obtain⟨m,au⟩:∃m:Nat->Nat,m=λj=>if j=1 then s+8 else if j=3 then s+15 else ai j:=⟨_,rfl⟩
 have aE:m 0=ai 0:=by rw[au];rfl
 have ad:m 1=s+8:=by rw[au];rfl
 have b3:m 3=s+15:=by rw[au];rfl
 have q:∀b,b<s->b≠ai 0->(0<k->b≠ai 1)->(0<k->b≠ai 3)->T.get b=aj.get b:=λb l f O v=>by
  rw[I,a7 f,D,a7 f];exact aC b l O v
 have f:T.get (s+8)=some (.cells (d++[ee,cn,bP]) (.n 3)):=by
  rw[I,a7 (by omega),D,a7 (by omega),G,a7 (by omega),gV (λh=>by have:=E h;omega),C,a7 (by omega),F];exact b1
 have a6:T.get (s+15)=some (.cells (g++[.int .i64 (k:Int)]) (.n 1)):=by
  rw[I,a7 (by omega),D,a7 (by omega),G];exact b1
 have s:d.length=k*3:=by
  by_cases e:k=0
  ·rw[ax e,e];rfl
  ·exact(N (by omega)).2.1
 have a8:g.length=k:=by
  by_cases e:k=0
  ·rw[ay e,e];rfl
  ·exact(P (by omega)).2.1
 refine aO _ T m u6 (λb l _=>q b (by omega) (l 0 n) (λh=>l 1 (t h)) λh=>l 3 (u h)) aE ⟨?_,λ_=>?_,λh=>absurd h (Nat.lt_irrefl 0),λ_=>?_,λh=>absurd h (Nat.lt_irrefl 0),λi J=>absurd J (hz _),λi j J p e=>?_,λi J=>?_⟩ (by simp[l1,l3,aJ,aL,aM])
 ·rw[aE,ad,b3,I,b1];rfl
 ·rw[ad];refine⟨_,f,by simp[s];omega,λx r=>?_⟩;by_cases e:x=k
  ·subst e;refine⟨ee,cn,bP,?_,?_,?_,hv.k u6⟩
   ·rw[hR (by omega),show x*3-d.length=0 by omega];rfl
   ·rw[hR (by omega),show x*3+1-d.length=1 by omega];rfl
   ·rw[hR (by omega),show x*3+2-d.length=2 by omega];rfl
  ·obtain⟨V,W,c,Z,b,e3,d⟩:=(N (by omega)).2.2 x (by omega);exact⟨V,W,c,by rw[hi (by omega)];exact Z,by rw[hi (by omega)];exact b,by rw[hi (by omega)];exact e3,d.k u6⟩
 ·rw[b3];refine⟨_,a6,by simp[a8],λi J=>?_⟩;by_cases e:i=k
  ·subst e;rw[hR (by omega),show i-g.length=0 by omega];rfl
  ·rw[hi (by omega)];exact(P (by omega)).2.2 i (by omega)
 ·have b:∀j,Real (k+1) 0 (k+1) j->j=0∨j=1∨j=3:=λj p=>by unfold Real at p;omega
  rcases b i J with rfl | rfl | rfl<;>rcases b j p with rfl | rfl | rfl<;>simp only[aE,ad,b3]at e<;>omega
 ·have b:i=0∨i=1∨i=3:=by unfold Real at J;omega
  have:=a.ge 0 n
  rcases b with rfl | rfl | rfl
  ·rw[aE];exact this
  ·rw[ad];omega
  ·rw[b3];omega
end
abbrev tyC:Nat:=T.T1
section
variable{ak:Nat}{ai:Nat->Nat}{lc bo:Value}{ab:aI}
theorem Ch{k:Nat}(a:k<ab.a.length):ab.q.ah k=fc (ab.af k).low:=aT a
theorem Cj{k:Nat}(a:k<ab.a.length):ab.q.up k=fc (ab.af k).up:=aT a
theorem Lt{k:Nat}(a:k<ab.a.length):ab.L.v k=pN (fc (ab.af k).low) (fc (ab.af k).up):=aT a
theorem Ny{c:dy}(h:h6 c=true):(c.low≠[]->isNum c.low=true)/\(c.up≠[]->isNum c.up=true):=by
 obtain⟨a,b⟩:=Nz c h;exact⟨λe=>a (by simpa using e),λe=>b (by simpa using e)⟩
theorem Qr(t:ep X)(e:bs pm aj)(an:pm.ah<=ak)(M:ak<=aj.next)(N:ab.ok)(O:ab.I=true){k:Nat}(f:k<ab.a.length)(P:fB ab.q ak aj ai lc bo k 0 k ab.L){aE:Nat}{y:Option Addr}{cap:Nat}(hc:gC aj (.slice y ab.a.length cap) ab.a){L:bb}(l1:aK 1 L=some (.pointer (some ⟨aE,0,none⟩)))(l3:aK 3 L=some (.pointer (some ⟨ai 0,0,none⟩)))
 (R:aK 18 L=some (.slice y ab.a.length cap)) (ao:aK 19 L=some (.int .i64 (ab.a.length:Int))) (S:aK 20 L=some (.int .i64 (k:Int))) {Q:b5}
 (ar:∀aN aa u,aF pm ak aj aa->u 0=ai 0->fB ab.q ak aa u lc bo (k+1) 0 (k+1) ab.L->Sub [(20,.int .i64 (k:Int)),(19,.int .i64 (ab.a.length:Int)),(1,.pointer (some ⟨aE,0,none⟩)),(3,.pointer (some ⟨ai 0,0,none⟩)),(18,.slice y ab.a.length cap)] aN->Q .normal aN aa):
 wp X pm (.code (.seq (.bj [m 22 20,o 23 (.iW 5 (.t 18) (.t 20)),o 24 (.load true 5 (.t 23)),o 5 (.alloc tyC [(.string ⟨#[]⟩),(.string ⟨#[]⟩),(.string ⟨#[]⟩),(.string ⟨#[]⟩),(.bool false)]),m 4 22,⟨none,none,.store 5 (.t 5) (.t 24)⟩]) EC)) L aj [] Q:=by
 obtain⟨_,_,T,au⟩:=hc.at;cases T;obtain⟨b',av,_,_,_,rfl,e2,e3,e4,c,U,rfl⟩:=au k f;have y:=eB U;have B:=aI.zW U;have U:=xy O y;obtain⟨aw,ax⟩:=Ny U;obtain⟨_,_,_⟩:=N.cs c y;obtain⟨a,C⟩:∃a,a=(aj.new (.cells [.string ⟨#[]⟩,.string ⟨#[]⟩,.string ⟨#[]⟩,.string ⟨#[]⟩,.bool false] (.t tyC))).put aj.next (.cells [aA c.name,aA c.low,aA c.up,aA c.cost,.bool c.int] (.t tyC)):=⟨_,rfl⟩;have v:K pm aj a:=by rw[C];exact ic e _ _ (by simp)
 have V:a.get aj.next=some (.cells [aA c.name,aA c.low,aA c.up,aA c.cost,.bool c.int] (.t tyC)):=by rw[C];exact b1
 have d:=v.h;have y:=d.lt V;have y:pm.may aj.next=true:=e.may (bg _);simp[R,S,f,e2,e3,e4,e.pick,e.make,y,ptr,bB,dy.cells,<-C,-tb];refine cy.of d.ah rfl ?_;obtain⟨s,W⟩:∃s,s=a.next:=⟨_,rfl⟩;have w:=d.none;have y:=d.J;rw[<-W]at w y;simp[b7,<-W,w,y,V,Perm.make,Perm.pick,-tb];obtain⟨A,l⟩:∃A,A=(a.up 9).put (s+4) (.cells [.pointer none,.pointer none,.pointer none] (.t tyX)):=⟨_,rfl⟩;have D:K pm a A:=by rw[l];exact aF.fill ((K.refl d).up 9) (by omega) (w 4) (by show s+4<a.next+9;omega) _
 have ay:A.get (s+4)=some (.cells [.pointer none,.pointer none,.pointer none] (.t tyX)):=by rw[l];exact b1
 have y:∀j,j≠4->A.get (s+j)=none:=λj g=>by rw[l,a7 (by omega)];exact w j
 have w:A.next=s+9:=by rw[l];show a.next+9=_;omega
 have w:(a.up 9).put (s+4) (.cells [.pointer none,.pointer none,.pointer none] (.t tyX))=A:=l.symm;rw[w];have E:∀{l:ad},K pm A l->∀j,j≠4->j<9->l.get (s+j)=none:=λk j g _=>(k.get _ (by omega)).trans (y j g);have l:=y 5 (by decide);refine eM D.h (az:=[aA c.low]) l (by simp) (by simp) rfl (λaB F=>td t F (by omega) aw) ?_;rintro _ _ G Y;have l:=E G 6 (by decide) (by decide);simp[-tb];refine eM G.h (az:=[aA c.up]) l (by simp) (by simp) rfl (λaB F=>td t F (by omega) ax) ?_;rintro _ Z c f2;have n:=K.trans G c;have y7:=E n 7 (by decide) (by decide);have y8:=E n 8 (by decide) (by decide);have aC:=Y.up c;obtain⟨h,rfl⟩:=Y.ptr;obtain⟨i,rfl⟩:=f2.ptr;have ae:=n.some D.h ay;have c:=λo=>eG (ok:=pm.ok) (o:=o) (b:=s+4) (aY d.ah (show a.next<=s+4 by omega));have l:aj.next<s:=by omega
 simp[y7,y8,ae,c,ptr,bB,cj,cd,l,fq (show s+4≠aj.next by omega),jT,dM,xY,-tb];obtain⟨p,H⟩:∃p,p=Z.put (s+4) (.cells [.pointer h,.pointer i,.pointer none] (.t tyX)):=⟨_,rfl⟩;have c:aF pm a.next Z p:=by rw[H];exact aF.put (aF.refl n.h |>.mono (bg _)) (by omega) ae (by simp) _
 have g5:=c.h;have af:p.get (s+4)=some (.cells [.pointer h,.pointer i,.pointer none] (.t tyX)):=by rw[H];exact b1
 have aD:K pm a p:=aF.trans (D.trans n) c;rw[<-H];have ag:=aC.up c;have ah:=f2.up c;simp[af,bx,bB,-EH,-vI];refine aq.of (az:=[.agg #[.pointer h,.pointer i,.pointer none]]) (by simp) (by simp) (S1 t g5 ag ah rfl) ?_;rintro _ H6 ⟨q,hr⟩;have g6:=q.h;have al:=q.some g5 af;obtain⟨I,rfl,_⟩:=id hr;have c:=K.trans aD q;have aG:=K.trans v c;have aH:=eG (ok:=pm.ok) (o:=pm.num) (b:=s+4) (aY d.ah (show a.next<=s+4 by omega));obtain⟨r,J⟩:∃r,r=H6.put (s+4) (.cells [.pointer h,.pointer i,.pointer (some ⟨I,0,none⟩)] (.t tyX)):=⟨_,rfl⟩;have a:aF pm aj.next H6 r:=by rw[J];exact aF.put (.refl g6) (by have:=v.next;omega) al (by simp) _
 have x:K pm aj r:=aF.trans aG a;have c:r.get (s+4)=some (.cells [.pointer h,.pointer i,.pointer (some ⟨I,0,none⟩)] (.t tyX)):=by rw[J];exact b1
 simp[al,aH,<-J,-vI];have d:=P.k e x;have l:=λj g=>P.lt e (j:=j) g;have e:=v.next;refine Qq t x.h an (aY M x.next) N O f d (aE:=aE) (dr:=s+4) (z:=.t tyX) (ee:=.pointer h) (cn:=.pointer i) (bP:=.pointer (some ⟨I,0,none⟩)) (Dw:=.slice (some ⟨b',av,none⟩) ab.a.length cap) (by omega) (λj g T=>by have:=l j g;omega) c (by simp) ⟨by rw[Ch f,B];exact(ag.up q).up a,by rw[Cj f,B];exact(ah.up q).up a,by rw[Lt f,B];exact hr.up a⟩ rfl (by simp[l1]) (by simp[l3]) (by simp) (by simp) (by simp[R]) (by simp[ao]) (by simp[S]) λaN aa u a _ c d e=>?_;exact ar aN aa u ((x.mono M).trans a) c d e
end
section
variable{ak:Nat}{ai:Nat->Nat}{lc bo:Value}{ab:aI}{gi:Option Addr}{gj:Nat}
def mw(ai:Nat->Nat)(s i cR:Nat)(j:Nat):Nat:=if j=1 then s+16 else if j=2 then s+27 else if j=4 then s+9 else if j=5+i then cR else ai j
theorem Ss(A:bs pm aj){i d s:Nat}(U:d=ab.a.length+i)(u:s=aj.next)(u:ak<=aj.next)(g:fB ab.q ak aj ai (.slice gi ab.a.length gj) bo d i ab.a.length ab.L){dr cR:Nat}{ee cn bP:Value}(V:ak<=cR)(o:∀j,Real d i ab.a.length j->ai j≠dr/\ai j≠cR)(W:jN aj ab.q ab.L.v (ab.a.length+i) ee cn bP)(Q:dI aj cR ab.a.length ab.a.length (ab.L.M i))
 {k r t:List Value} (R:0<d->aj.get (ai 1)=some (.cells k (.n 3))/\k.length=d*3/\∀x,x<d->∃p q c,k[x*3]? = some p/\k[x*3+1]? = some q/\k[x*3+2]? = some c/\jN aj ab.q ab.L.v x p q c) (X:d=0->k=[]) (S:0<i->aj.get (ai 2)=some (.cells r (.n 1))/\r.length=i/\∀j,j<i->r[j]? = some (.int .i64 (ab.L.rows j:Int))) (Y:i=0->r=[])
 (T:0<i->aj.get (ai 4)=some (.cells t (.n 1))/\t.length=i/\∀j,j<i->t[j]? = some (.slice (some ⟨ai (5+j),0,none⟩) ab.a.length ab.a.length)) (Z:i=0->t=[]) {u:ad} (C:aF pm ak aj u)
 (aa:u.get (ai 0)=some (.cells [.slice gi ab.a.length gj,bo,aP (s+16) (d+1),aP (s+27) (i+1),aP (ai 3) ab.a.length,aP (s+9) (i+1)] (.t tyT))) (ae:u.get (s+9)=some (.cells (t++[.slice (some ⟨cR,0,none⟩) ab.a.length ab.a.length]) (.n 1))) (af:u.get (s+16)=some (.cells (k++[ee,cn,bP]) (.n 3))) (ag:u.get (s+27)=some (.cells (r++[.int .i64 ((ab.a.length:Int)+(i:Int))]) (.n 1)))
 (K:∀b,b<s->b≠ai 0->(0<i->b≠ai 4)->(0<d->b≠ai 1)->(0<i->b≠ai 2)->u.get b=aj.get b):mw ai s i cR 0=ai 0/\fB ab.q ak u (mw ai s i cR) (.slice gi ab.a.length gj) bo (d+1) (i+1) ab.a.length ab.L:=by
 have v:Real d i ab.a.length 0:=.inl rfl;have L:0<d->Real d i ab.a.length 1:=λh=>.inr (.inl ⟨rfl,h⟩);have M:0<i->Real d i ab.a.length 2:=λh=>.inr (.inr (.inl ⟨.inl rfl,h⟩));have N:0<i->Real d i ab.a.length 4:=λh=>.inr (.inr (.inl ⟨.inr rfl,h⟩));have ah:ai 0<s:=by have:=g.lt A v;omega
 have al:=g.ge 0 v;have l:0<ab.a.length->Real d i ab.a.length 3:=λh=>.inr (.inr (.inr (.inl ⟨rfl,h⟩)));have O:∀j,j<i->Real d i ab.a.length (5+j):=λj h=>.inr (.inr (.inr (.inr ⟨by omega,by omega⟩)));have an:cR<s:=by
  obtain⟨_,e,_⟩:=Q;have:=A.lt e;omega
 have m:∀a b,Real d i ab.a.length a->Real d i ab.a.length b->a≠b->ai a≠ai b:=λa b w P u e=>u (g.inj a b w P e);obtain⟨f,n⟩:∃f:Nat->Nat,f=mw ai s i cR:=⟨_,rfl⟩;rw[<-n];have D:f 0=ai 0:=by rw[n,mw];simp;intro h;omega
 have E:f 1=s+16:=by rw[n,mw];simp
 have F:f 2=s+27:=by rw[n,mw];simp
 have G:f 3=ai 3:=by rw[n,mw];simp;intro h;omega
 have H:f 4=s+9:=by rw[n,mw];simp
 have I:∀j,j<i->f (5+j)=ai (5+j):=λj z=>by
  rw[n,mw];simp only[show ¬5+j=1 by omega,show ¬5+j=2 by omega,show ¬5+j=4 by omega,show ¬5+j=5+i by omega,if_false]
 have J:f (5+i)=cR:=by
  rw[n,mw];simp only[show ¬5+i=1 by omega,show ¬5+i=2 by omega,show ¬5+i=4 by omega,if_false,if_true]
 have n:k.length=d*3:=by
  by_cases e:d=0
  ·rw[X e,e];rfl
  ·exact(R (by omega)).2.1
 have ao:r.length=i:=by
  by_cases e:i=0
  ·rw[Y e,e];rfl
  ·exact(S (by omega)).2.1
 have aq:t.length=i:=by
  by_cases e:i=0
  ·rw[Z e,e];rfl
  ·exact(T (by omega)).2.1
 refine⟨D,?_,λ_=>?_,λ_=>?_,λB=>?_,λ_=>?_,λj z=>?_,λa b w P e=>?_,λa w=>?_⟩
 ·rw[D,E,F,G,H];exact aa
 ·rw[E];refine⟨_,af,by simp[n];omega,λx _=>?_⟩;by_cases e:x=d
  ·subst e;refine⟨ee,cn,bP,?_,?_,?_,?_⟩
   ·rw[hR (by omega),show x*3-k.length=0 by omega];rfl
   ·rw[hR (by omega),show x*3+1-k.length=1 by omega];rfl
   ·rw[hR (by omega),show x*3+2-k.length=2 by omega];rfl
   ·rw[U];exact W.k C
  ·obtain⟨p,q,c,b,i,j,k⟩:=(R (by omega)).2.2 x (by omega);exact⟨p,q,c,by rw[hi (by omega)];exact b,by rw[hi (by omega)];exact i,by rw[hi (by omega)];exact j,k.k C⟩
 ·rw[F];refine⟨_,ag,by simp[ao],λj z=>?_⟩;by_cases e:j=i
  ·subst e;rw[hR (by omega),show j-r.length=0 by omega];show some (Value.int .i64 ((ab.a.length:Int)+(j:Int)))=some (.int .i64 ((ab.a.length+j:Nat):Int));simp
  ·rw[hi (by omega)];exact(S (by omega)).2.2 j (by omega)
 ·rw[G];refine(g.c B).ext λy e=>(K _ (by have:=g.lt A (l B);omega) (m 3 0 (l B) v (by decide)) (λh=>m 3 4 (l B) (N h) (by decide)) (λh=>m 3 1 (l B) (L h) (by decide)) λh=>m 3 2 (l B) (M h) (by decide)).trans e
 ·rw[H];refine⟨_,ae,by simp[aq],λj z=>?_⟩;by_cases e:j=i
  ·subst e;rw[hR (by omega),show j-t.length=0 by omega,J];rfl
  ·rw[hi (by omega),I j (by omega)];exact(T (by omega)).2.2 j (by omega)
 ·by_cases e:j=i
  ·subst e;rw[J];exact Q.ext C λy e=>(K cR an (o 0 v).2.symm (λh=>(o 4 (N h)).2.symm) (λh=>(o 1 (L h)).2.symm) λh=>(o 2 (M h)).2.symm).trans e
  ·have z:j<i:=by omega
   rw[I j z];have b:=O j z;exact(g.row j z).ext C λy e=>(K _ (by have:=g.lt A b;omega) (m _ _ b v (by omega)) (λh=>m _ _ b (N h) (by omega)) (λh=>m _ _ b (L h) (by omega)) λh=>m _ _ b (M h) (by omega)).trans e
 ·have c:∀a,Real (d+1) (i+1) ab.a.length a->(a=1/\f a=s+16)∨(a=2/\f a=s+27)∨(a=4/\f a=s+9)∨(a=5+i/\f a=cR)∨(Real d i ab.a.length a/\f a=ai a/\ai a<s/\ai a≠cR/\a≠1/\a≠2/\a≠4/\a≠5+i):=by
   intro a w
   rcases w with rfl | ⟨rfl,_⟩ | ⟨rfl | rfl,_⟩ | ⟨rfl,h⟩ | ⟨_,_⟩
   ·exact .inr (.inr (.inr (.inr ⟨v,D,ah,(o 0 v).2,by omega,by omega,by omega,by omega⟩)))
   ·exact .inl ⟨rfl,E⟩
   ·exact .inr (.inl ⟨rfl,F⟩)
   ·exact .inr (.inr (.inl ⟨rfl,H⟩))
   ·exact .inr (.inr (.inr (.inr ⟨l h,G,by have:=g.lt A (l h);omega,(o 3 (l h)).2,by omega,by omega,by omega,by omega⟩)))
   ·obtain⟨j,rfl⟩:∃j,a=5+j:=⟨a-5,by omega⟩;by_cases e:j=i
    ·subst e;exact .inr (.inr (.inr (.inl ⟨rfl,J⟩)))
    ·have b:=O j (by omega);exact .inr (.inr (.inr (.inr ⟨b,I j (by omega),by have:=g.lt A b;omega,(o _ b).2,by omega,by omega,by omega,by omega⟩)))
  rcases c a w with⟨rfl,x⟩ | ⟨rfl,x⟩ | ⟨rfl,x⟩ | ⟨rfl,x⟩ | ⟨TV,x,Vp,Vq,_⟩<;>rcases c b P with⟨rfl,y⟩ | ⟨rfl,y⟩ | ⟨rfl,y⟩ | ⟨rfl,y⟩ | ⟨T7,y,Vr,Vs,_⟩<;>first | rfl | (rw[x,y]at e;first | omega | exact g.inj a b TV T7 e)
 ·rcases w with rfl | ⟨rfl,_⟩ | ⟨rfl | rfl,_⟩ | ⟨rfl,h⟩ | ⟨_,_⟩
  ·rw[D];exact al
  ·rw[E];omega
  ·rw[F];omega
  ·rw[H];omega
  ·rw[G];exact g.ge 3 (l h)
  ·obtain⟨j,rfl⟩:∃j,a=5+j:=⟨a-5,by omega⟩;by_cases e:j=i
   ·subst e;rw[J];exact V
   ·rw[I j (by omega)];exact g.ge _ (O j (by omega))
theorem Qt(f:bs pm aj)(bh:pm.ah<=ak)(hn:ak<=aj.next)(ho:ab.ok){i:Nat}(aJ:i<ab.rows.length)(d:fB ab.q ak aj ai (.slice gi ab.a.length gj) bo (ab.a.length+i) i ab.a.length ab.L){aE dr cR:Nat}{z zb:cz}{ee cn bP:Value}(aQ:ak<=dr)(bj:ak<=cR)(_:dr≠cR)(ae:∀j,Real (ab.a.length+i) i ab.a.length j->ai j≠dr/\ai j≠cR)
 (p:aj.get dr=some (.cells [ee,cn,bP] z)) (bk:aj.get aE=some (.cells [.slice gi ab.a.length gj,bo] zb)) (aQ:aE<ak) (hv:jN aj ab.q ab.L.v (ab.a.length+i) ee cn bP) (bl:[ee,cn,bP].all c6=true) (bm:dI aj cR ab.a.length ab.a.length (ab.L.M i)) {L:bb} (l1:aK 1 L=some (.pointer (some ⟨aE,0,none⟩))) (l3:aK 3 L=some (.pointer (some ⟨ai 0,0,none⟩))) (l7:aK 7 L=some (.int .i64 (i:Int)))
 (l9:aK 9 L=some (.pointer (some ⟨dr,0,none⟩))) (aM:aK 10 L=some (.slice (some ⟨cR,0,none⟩) ab.a.length ab.a.length)) {k':Value} (bn:aK 57 L=some k') (bp:aK 58 L=some (.int .i64 (ab.rows.length:Int))) (bq:aK 59 L=some (.int .i64 (i:Int))) {Q:b5}
 (aO:∀aN aa aQ,aF pm ak aj aa->aQ 0=ai 0->fB ab.q ak aa aQ (.slice gi ab.a.length gj) bo (ab.a.length+(i+1)) (i+1) ab.a.length ab.L->Sub [(59,.int .i64 (i:Int)),(58,.int .i64 (ab.rows.length:Int)),(1,.pointer (some ⟨aE,0,none⟩)),(3,.pointer (some ⟨ai 0,0,none⟩)),(57,k')] aN->Q .normal aN aa):
 wp X pm (.code ta) L aj [] Q:=by
 have aQ:=ho.c;have aQ:=ho.r;obtain⟨a,aR⟩:∃a,a=ab.a.length+i:=⟨_,rfl⟩;rw[<-aR]at d ae;obtain⟨s,hs⟩:∃s,s=aj.next:=⟨_,rfl⟩;have af:=f.none;have aS:=f.J;rw[<-hs]at af aS;have ag:=d.t;have S:Real a i ab.a.length 0:=.inl rfl;have T:0<a->Real a i ab.a.length 1:=λh=>.inr (.inl ⟨rfl,h⟩);have U:0<i->Real a i ab.a.length 2:=λh=>.inr (.inr (.inl ⟨.inl rfl,h⟩));have u:0<i->Real a i ab.a.length 4:=λh=>.inr (.inr (.inl ⟨.inr rfl,h⟩));have al:ai 0<s:=by have:=d.lt f S;omega
 have v:=λh=>d.lt f (T h);have J:=λh=>d.lt f (U h);have B:=λh=>d.lt f (u h);have aT:dr<s:=by have:=f.lt p;omega
 have aU:aE<s:=by omega
 have az:0<a->ai 0≠ai 1:=λh e=>absurd (d.inj 0 1 S (T h) e) (by decide);have br:0<i->ai 0≠ai 2:=λh e=>absurd (d.inj 0 2 S (U h) e) (by decide);have an:0<i->ai 0≠ai 4:=λh e=>absurd (d.inj 0 4 S (u h) e) (by decide);have bs:0<a->0<i->ai 1≠ai 4:=λh C e=>absurd (d.inj 1 4 (T h) (u C) e) (by decide);have bt:0<a->0<i->ai 1≠ai 2:=λh C e=>absurd (d.inj 1 2 (T h) (U C) e) (by decide);have bu:0<i->ai 2≠ai 4:=λh e=>absurd (d.inj 2 4 (U h) (u h) e) (by decide);have ao:=d.ge 0 S;have aq:=λh=>d.ge 1 (T h);have aV:=λh=>d.ge 2 (U h);have ar:=λh=>d.ge 4 (u h);have au:∀av b,ak<=b->Perm.may ⟨pm.ah,pm.ok,av⟩ b=true:=λav b h=>eG (aY bh h);obtain⟨g,aA,aW⟩:∃g,(0<a->aj.get (ai 1)=some (.cells g (.n 3))/\g.length=a*3/\∀x,x<a->∃S T c,g[x*3]? = some S/\g[x*3+1]? = some T/\g[x*3+2]? = some c/\jN aj ab.q ab.L.v x S T c)/\(a=0->g=[]):=by
  by_cases e:a=0
  ·exact⟨[],λh=>by omega,λ_=>rfl⟩
  ·obtain⟨bN,m⟩:=d.v (by omega);exact⟨bN,λ_=>m,λh=>absurd h e⟩
 obtain⟨n,aB,aX⟩:∃n,(0<i->aj.get (ai 2)=some (.cells n (.n 1))/\n.length=i/\∀j,j<i->n[j]? = some (.int .i64 (ab.L.rows j:Int)))/\(i=0->n=[]):=by
  by_cases e:i=0
  ·exact⟨[],λh=>by omega,λ_=>rfl⟩
  ·obtain⟨bN,m⟩:=d.r (by omega);exact⟨bN,λ_=>m,λh=>absurd h e⟩
 obtain⟨q,aw,aZ⟩:∃q,(0<i->aj.get (ai 4)=some (.cells q (.n 1))/\q.length=i/\∀j,j<i->q[j]? = some (.slice (some ⟨ai (5+j),0,none⟩) ab.a.length ab.a.length))/\(i=0->q=[]):=by
  by_cases e:i=0
  ·exact⟨[],λh=>by omega,λ_=>rfl⟩
  ·obtain⟨bN,m⟩:=d.m (by omega);exact⟨bN,λ_=>m,λh=>absurd h e⟩
 obtain⟨k,ax⟩:∃k:Value,k=.slice (some ⟨cR,0,none⟩) ab.a.length ab.a.length:=⟨_,rfl⟩;have bw:[k].all c6=true:=by rw[ax];rfl
 simp;refine cy.of f.ah rfl ?_;have bz:K pm aj (aj.up 37):=(K.refl f).up 37;obtain⟨M,N⟩:∃A,A=(aj.up 37).put (s+8) (.cells [k] (.n 1)):=⟨_,rfl⟩;have aC:K pm aj M:=by rw[N];exact aF.fill bz (by omega) (by show aj.get _=none;exact af 8) (by show s+8<aj.next+37;omega) _
 have bA:M.next=s+37:=by rw[N];show aj.next+37=_;omega
 have aD:∀j,j≠8->M.get (s+j)=none:=λj l=>by rw[N,a7 (by omega)];exact af j
 have bC:M.get (s+8)=some (.cells [k] (.n 1)):=by rw[N];exact b1
 have e1:=tD (H:=M) (w:=1) (cc:=24) (c:=ai 4) (i:=i) (ah:=pm.ah) (fx:=pm.ok) (b:=s+9) (bN:=q) (xs:=[k]) (λh=>⟨aC.some f (aw h).1,by simpa using(aw h).2.1,au _ _ (ar h)⟩) aZ bw (by decide) (by omega) (by decide);obtain⟨V,O⟩:∃A,A=(gG M (ai 4) i).put (s+9) (.cells (q++[k]) (.n 1)):=⟨_,rfl⟩;rw[<-O]at e1;have u2:aF pm ak aj V:=by
  rw[O];exact aF.fill (aF.gG (aC.mono hn) λh=>⟨ar h,aC.some f (aw h).1⟩) (by omega) (by rw[gV (λh=>by have:=B h;omega)];exact aD 9 (by decide)) (by rw[pb];omega) _
 have bD:V.next=s+37:=by rw[O,Ct,pb];exact bA
 have aG:∀j,9<j->V.get (s+j)=none:=λj l=>by rw[O,a7 (by omega),gV (λh=>by have:=B h;omega)];exact aD j (by omega)
 have aH:∀b,b<s->(0<i->b≠ai 4)->V.get b=aj.get b:=λb r W=>by
  rw[O,a7 (by omega),gV W,N,a7 (by omega)];rfl
 have bE:=(aH (ai 0) al an).trans ag;have bF:=(aH dr aT λh=>((ae 4 (u h)).1).symm).trans p;obtain⟨t,D⟩:∃A,A=V.put (s+15) (.cells [ee,cn,bP] (.n 3)):=⟨_,rfl⟩;have u3:aF pm ak aj t:=by rw[D];exact aF.fill u2 (by omega) (aG 15 (by decide)) (by omega) _
 have bG:t.next=s+37:=by rw[D];exact bD
 have aI:∀j,15<j->t.get (s+j)=none:=λj l=>by rw[D,a7 (by omega)];exact aG j (by omega)
 have bH:t.get (s+15)=some (.cells [ee,cn,bP] (.n 3)):=by rw[D];exact b1
 have a1:∀b,b<s->(0<i->b≠ai 4)->t.get b=aj.get b:=λb r W=>by rw[D,a7 (by omega)];exact aH b r W
 have a6:0<a->t.get (ai 1)=some (.cells g (.n 3)):=λh=>(a1 _ (by have:=v h;omega) λC=>bs h C).trans (aA h).1;have e3:=tD (H:=t) (w:=3) (cc:=24) (c:=ai 1) (i:=a) (ah:=pm.ah) (fx:=pm.ok) (b:=s+16) (bN:=g) (xs:=[ee,cn,bP]) (λh=>⟨a6 h,(aA h).2.1,au _ _ (aq h)⟩) aW bl (by decide) (by omega) (by decide);obtain⟨Y,E⟩:∃A,A=(gG t (ai 1) a).put (s+16) (.cells (g++[ee,cn,bP]) (.n 3)):=⟨_,rfl⟩;rw[<-E]at e3;have u4:aF pm ak aj Y:=by
  rw[E];exact aF.fill (aF.gG u3 λh=>⟨aq h,a6 h⟩) (by omega) (by rw[gV (λh=>by have:=v h;omega)];exact aI 16 (by decide)) (by rw[pb];omega) _
 have bI:Y.next=s+37:=by rw[E,Ct,pb];exact bG
 have aJ:∀j,16<j->Y.get (s+j)=none:=λj l=>by rw[E,a7 (by omega),gV (λh=>by have:=v h;omega)];exact aI j (by omega)
 have ay:∀b,b<s->(0<i->b≠ai 4)->(0<a->b≠ai 1)->Y.get b=aj.get b:=λb r e W=>by
  rw[E,a7 (by omega),gV W];exact a1 b r e
 have bJ:=(ay (ai 0) al an az).trans ag;have bK:=(ay aE aU (λh=>by have:=ar h;omega) λh=>by have:=aq h;omega).trans bk;obtain⟨F,o⟩:∃A,A=Y.put (s+26) (.cells [.int .i64 ((ab.a.length:Int)+(i:Int))] (.n 1)):=⟨_,rfl⟩;have u5:aF pm ak aj F:=by rw[o];exact aF.fill u4 (by omega) (aJ 26 (by decide)) (by omega) _
 have e:F.next=s+37:=by rw[o];exact bI
 have aL:∀j,26<j->F.get (s+j)=none:=λj l=>by rw[o,a7 (by omega)];exact aJ j (by omega)
 have bL:F.get (s+26)=some (.cells [.int .i64 ((ab.a.length:Int)+(i:Int))] (.n 1)):=by rw[o];exact b1
 have a8:0<i->F.get (ai 2)=some (.cells n (.n 1)):=λh=>by
  have:=J h;rw[o,a7 (by omega)];exact(ay _ (by omega) bu λC=>(bt C h).symm).trans (aB h).1
 have e5:=tD (H:=F) (w:=1) (cc:=8) (c:=ai 2) (i:=i) (ah:=pm.ah) (fx:=pm.ok) (b:=s+27) (bN:=n) (xs:=[.int .i64 ((ab.a.length:Int)+(i:Int))]) (λh=>⟨a8 h,by simpa using(aB h).2.1,au _ _ (aV h)⟩) aX rfl (by decide) (by omega) (by decide);obtain⟨Z,G⟩:∃A,A=(gG F (ai 2) i).put (s+27) (.cells (n++[.int .i64 ((ab.a.length:Int)+(i:Int))]) (.n 1)):=⟨_,rfl⟩;rw[<-G]at e5;have u6:aF pm ak aj Z:=by
  rw[G];exact aF.fill (aF.gG u5 λh=>⟨aV h,a8 h⟩) (by omega) (by rw[gV (λh=>by have:=J h;omega)];exact aL 27 (by decide)) (by rw[pb];omega) _
 have a_:∀j,27<j->Z.get (s+j)=none:=λj l=>by rw[G,a7 (by omega),gV (λh=>by have:=J h;omega)];exact aL j (by omega)
 have ba:∀b,b<s->(0<i->b≠ai 4)->(0<a->b≠ai 1)->(0<i->b≠ai 2)->Z.get b=aj.get b:=λb r h4 m h2=>by
  rw[G,a7 (by omega),gV h2,o,a7 (by omega)];exact ay b r h4 m
 have bc:=(ba (ai 0) al an az br).trans ag;obtain⟨e,_⟩:∃e,e=Value.slice gi ab.a.length gj:=⟨_,rfl⟩;obtain⟨A7,P⟩:∃A,A=Z.put (ai 0) (.cells [.slice gi ab.a.length gj,bo,aP (ai 1) a,aP (ai 2) i,aP (ai 3) ab.a.length,aP (s+9) (i+1)] (.t tyT)):=⟨_,rfl⟩;have u7:aF pm ak aj A7:=by rw[P];exact aF.put u6 ao bc (by simp) _
 have bd:∀j,27<j->A7.get (s+j)=none:=λj l=>by rw[P,a7 (by omega)];exact a_ j l
 have bf:A7.get (ai 0)=some (.cells [.slice gi ab.a.length gj,bo,aP (ai 1) a,aP (ai 2) i,aP (ai 3) ab.a.length,aP (s+9) (i+1)] (.t tyT)):=by rw[P];exact b1
 obtain⟨A8,R⟩:∃A,A=A7.put (ai 0) (.cells [.slice gi ab.a.length gj,bo,aP (s+16) (a+1),aP (ai 2) i,aP (ai 3) ab.a.length,aP (s+9) (i+1)] (.t tyT)):=⟨_,rfl⟩;have u8:aF pm ak aj A8:=by rw[R];exact aF.put u7 ao bf (by simp) _
 have bM:∀j,27<j->A8.get (s+j)=none:=λj l=>by rw[R,a7 (by omega)];exact bd j l
 have bg:A8.get (ai 0)=some (.cells [.slice gi ab.a.length gj,bo,aP (s+16) (a+1),aP (ai 2) i,aP (ai 3) ab.a.length,aP (s+9) (i+1)] (.t tyT)):=by rw[R];exact b1
 obtain⟨I,ad⟩:∃A,A=A8.put (ai 0) (.cells [.slice gi ab.a.length gj,bo,aP (s+16) (a+1),aP (s+27) (i+1),aP (ai 3) ab.a.length,aP (s+9) (i+1)] (.t tyT)):=⟨_,rfl⟩;have u9:aF pm ak aj I:=by rw[ad];exact aF.put u8 ao bg (by simp) _
 have bO:=λav=>au av _ ao;have bQ:∀b i,c6 (aP b i)=true:=λb i=>by unfold aP;split<;>rfl
 have bR:∀b i,(aP b i).cells=#[aP b i]:=λb i=>by unfold aP;split<;>rfl
 have e:wr .i64 ((ab.a.length:Int)+(i:Int))=(ab.a.length:Int)+(i:Int):=b8 (by omega) (by omega);have t:k.cells=#[k]:=by rw[ax];rfl
 rw[<-ax]at aM
 simp[b7,<-hs,af,aS,l1,l3,l7,l9,aM,ag, bx,bB,Perm.make,Perm.pick,t,fill,<-N,aD,bC,e1,aG,bE,bF,<-D,aI,bH,e3,aJ,bJ,bK,e,<-o,aL,bL,e5,a_,bc,bO,bQ,bR,<-P,bd,bf,<-R,bM,bg,<-ad,cj,cd, dM,al,aT,aU,
  fq (show s+8≠ai 0 by omega),fq (show s+8≠dr by omega),fq (show s+8≠aE by omega),fq (show s+15≠ai 0 by omega),fq (show s+15≠aE by omega),fq (show s+26≠ai 0 by omega),fq (show s+26≠dr by omega),
  rv (c:=ai 4) (i:=i) (b:=s+9) (x:=ai 0) (λh=>(an h).symm) (by omega),rv (c:=ai 4) (i:=i) (b:=s+9) (x:=dr) (λh=>(ae 4 (u h)).1) (by omega),rv (c:=ai 4) (i:=i) (b:=s+9) (x:=aE) (λh=>by have:=ar h;omega) (by omega),
  rv (c:=ai 1) (i:=a) (b:=s+16) (x:=ai 0) (λh=>(az h).symm) (by omega),rv (c:=ai 1) (i:=a) (b:=s+16) (x:=aE) (λh=>by have:=aq h;omega) (by omega),
  w0 (c:=ai 4) (i:=i) (b:=s+9) (x:=s+15) (λh=>by have:=B h;omega) (by omega),wZ (c:=ai 4) (i:=i) (y:=s+8) (x:=s+15) (λh=>by have:=B h;omega) (by omega),
  w0 (c:=ai 4) (i:=i) (b:=s+9) (x:=s+26) (λh=>by have:=B h;omega) (by omega),wZ (c:=ai 4) (i:=i) (y:=s+8) (x:=s+26) (λh=>by have:=B h;omega) (by omega),
  w0 (c:=ai 1) (i:=a) (b:=s+16) (x:=s+26) (λh=>by have:=v h;omega) (by omega),wZ (c:=ai 1) (i:=a) (y:=s+15) (x:=s+26) (λh=>by have:=v h;omega) (by omega)]
 refine⟨⟨λx p=>.inl (.inl (.inl (tz (λh=>by have:=B h;omega) p))),λx p=>.inl (.inl (.inl (tz (λh=>by have:=v h;omega) p))),λx p=>.inl (.inl (.inl (tz (λh=>by have:=J h;omega) p)))⟩,?_⟩;have p:∀b,b<s->b≠ai 0->(0<i->b≠ai 4)->(0<a->b≠ai 1)->(0<i->b≠ai 2)->I.get b=aj.get b:=λb r e h4 m h2=>by
  rw[ad,a7 e,R,a7 e,P,a7 e];exact ba b r h4 m h2
 have e:∀j,s<=j->I.get j=Z.get j:=λj l=>by rw[ad,a7 (by omega),R,a7 (by omega),P,a7 (by omega)]
 have l:I.get (s+9)=some (.cells (q++[k]) (.n 1)):=by
  rw[e _ (by omega),G,a7 (by omega),gV (λh=>by have:=J h;omega),o,a7 (by omega),E,a7 (by omega),gV (λh=>by have:=v h;omega),D,a7 (by omega),O];exact b1
 have k:I.get (s+16)=some (.cells (g++[ee,cn,bP]) (.n 3)):=by
  rw[e _ (by omega),G,a7 (by omega),gV (λh=>by have:=J h;omega),o,a7 (by omega),E];exact b1
 have g:I.get (s+27)=some (.cells (n++[.int .i64 ((ab.a.length:Int)+(i:Int))]) (.n 1)):=by
  rw[e _ (by omega),G];exact b1
 have e:ab.a.length+(i+1)=a+1:=by omega
 rw[e]at aO;rw[ax]at l;obtain⟨a,e⟩:=Ss f aR hs hn d bj ae hv bm aA aW aB aX aw aZ u9 (by rw[ad,b1]) l k g p;exact aO _ I _ u9 a e (by simp[l1,l3,bn,bp,bq])
end
abbrev tyY:Nat:=T.T4
abbrev tyK:Nat:=T.T5
section
variable{ak:Nat}{ai:Nat->Nat}{lc bo:Value}{ab:aI}{gi:Option Addr}{gj:Nat}
theorem LG(b:ab.ok){j:Nat}(c:j<ab.a.length):aS (ab.v0 j) 10000:=by
 obtain⟨d,e,_⟩:=b.cs (ab.af j) (eB (aI.jv c));unfold aI.v0 pN fc;split
 ·rename_i _ a;split at a
  ·cases a
  ·cases a;exact jg d (by decide)
 ·split
  ·exact pR (by decide)
  ·exact jg e (by decide)
theorem Qp(M:ep X)(z:bs pm aj)(q:K pm aj H)(A:ab.ok)(hm:ab.I=true){i B:Nat}(_:i<ab.rows.length)(Z:ab.a.length<=B)(h0:fB ab.q ak aj ai lc bo B i ab.a.length ab.L){r:bQ}{bP:Value}(hr:ab.rows[i]? = some r)(ax:gB aj bP r.j){Z dr cR:Nat}{z2:cz}{ee cn u:Value}(ad:aj.next<=dr)(ae:aj.next<=cR)(af:dr≠cR)
 (ay:H.get Z=some (.cells (r.cells bP) z2)) (hx:H.get dr=some (.cells [ee,cn,u] (.t tyY))) (hu:b9 H u 0) (aB:dI H cR ab.a.length ab.a.length λ_=>0) {L:bb} {v1:Value} (l1:aK 1 L=some v1) (l3:aK 3 L=some (.pointer (some ⟨ai 0,0,none⟩))) (l7:aK 7 L=some (.int .i64 (i:Int)))
 (l8:aK 8 L=some (.pointer (some ⟨Z,0,none⟩))) (l9:aK 9 L=some (.pointer (some ⟨dr,0,none⟩))) (aD:aK 10 L=some (.slice (some ⟨cR,0,none⟩) ab.a.length ab.a.length)) {k':Value} (aE:aK 57 L=some k') (aG:aK 58 L=some (.int .i64 (ab.rows.length:Int))) (aH:aK 59 L=some (.int .i64 (i:Int))) {Q:b5}
 (aI:∀aN aa Z,K pm aj aa->aF pm aj.next H aa->aa.get dr=some (.cells [ee,cn,Z] (.t tyY))->b9 aa Z (hI r.j ab.v0)->dI aa cR ab.a.length ab.a.length (hV r.j)->Sub [(1,v1),(3,.pointer (some ⟨ai 0,0,none⟩)),(7,.int .i64 (i:Int)),(9,.pointer (some ⟨dr,0,none⟩)),(10,.slice (some ⟨cR,0,none⟩) ab.a.length ab.a.length),(57,k'),(58,.int .i64 (ab.rows.length:Int)),(59,.int .i64 (i:Int))] aN->wp X pm (.code ta) aN aa [] Q):
 wp X pm (.code vH) L H [] Q:=by
 have aJ:=A.c;have Z:=eB hr;have hB:=BK hm Z;have aL:=A.rs r Z;obtain⟨N,_,_,_⟩:=Kx hB aL aJ;have aM:=N.len;obtain⟨aO,aP,rfl,aQ⟩:=ax.at;simp[l8,ay,bQ.cells,-Ev,-ta]
 refine eE (σ:=Value) r.j.length (λp _=>[(1,v1),(3,.pointer (some ⟨ai 0,0,none⟩)),(7,.int .i64 (i:Int)),(9,.pointer (some ⟨dr,0,none⟩)),(10,.slice (some ⟨cR,0,none⟩) ab.a.length ab.a.length),(57,k'),(58,.int .i64 (ab.rows.length:Int)),(59,.int .i64 (i:Int)),(95,.slice aO r.j.length aP)])
  (λp u aa=>K pm aj aa/\aF pm aj.next H aa/\aa.get dr=some (.cells [ee,cn,u] (.t tyY))/\b9 aa u (hI (r.j.take p) ab.v0)/\dI aa cR ab.a.length ab.a.length (hV (r.j.take p))) u (by decide) (by omega) (by simp[l1,l3,l7,l9,aD,aE,aG,aH]) ⟨q,aF.refl q.h,hx,by simpa [hI]using hu,by simpa [hV]using aB⟩ (by simp) ?_ ?_
 ·rintro p u h hp ⟨C,uu,aa,aK,ag⟩;obtain⟨_,_,_,_,_,rfl,e2,e3,e4,c,e5,rfl⟩:=aQ p hp;obtain⟨n,L,O,h4⟩:=N.all c (eB e5);obtain⟨j,hj⟩:∃j:Nat,c.af=(j:Int):=⟨c.af.toNat,by omega⟩;have o:j<ab.a.length:=by omega
  have ah:c.af.toNat=j:=by omega
  have f:=C.h;have aN:=C.some z e2;obtain⟨i,P⟩:∃i,i=(h.new (.cells [.int .i64 0,.string ⟨#[]⟩] (.t tyK))).put h.next (.cells [.int .i64 c.af,aA c.v] (.t tyK)):=⟨_,rfl⟩;have Q:K pm h i:=by rw[P];exact ic f _ _ (by simp)
  have R:i.get h.next=some (.cells [.int .i64 c.af,aA c.v] (.t tyK)):=by rw[P];exact b1
  have d:=Q.h;have aR:=d.lt R;have aU:∀q,Perm.may ⟨pm.ah,pm.ok,q⟩ cR=true:=λq=>eG (aY z.ah ae);have aV:∀q,Perm.may ⟨pm.ah,pm.ok,q⟩ dr=true:=λq=>eG (aY z.ah ad);have ak:=n;unfold dq.ok at ak;have aW:c.v≠[]:=by rintro s;rw[s]at L;simp[isNum,HP]at L
  obtain⟨S,d1,d2,d3⟩:=ag.k f Q;have aX:=d.lt d1;simp[hp,aN,e3,e4,f.pick,f.make,f.may (bg _),ptr,bB,dq.cells,<-P,-vJ];refine cy.of d.ah rfl ?_;have kU:K pm i (i.up 8):=(K.refl d).up 8;simp[b7,d.none,d.J,R,hj,-vJ];refine eM kU.h (az:=[aA c.v]) (by simp[d.none]) (by simp) (by simp) rfl (λal v=>td M v (by omega) λ_=>L) ?_;rintro _ H3 i D;rw[fc,aC aW]at D;have x3:=i.res d;have w:=kU.trans i;have g3:=w.h;have an:=w.some d d1;obtain⟨E,rfl,_⟩:=id D;have ao:j<S.length:=by omega
  simp[x3,an,o,aU,ao,cj,cd,aR,aX,jT,dM,xY,-vJ];have q:=λy (F:y<ab.a.length)=>(d3 y F).imp λ_ i=>(⟨i.1,i.2.up w⟩:_/\_);obtain⟨l,T⟩:=dI.put (m:=aj.next) g3 ae an d2 q o D (dd:=ab.a.length) (λy F=>.inr F);obtain⟨e,G⟩:∃e,e=H3.put cR (.cells (S.set j (.pointer (some ⟨E,0,none⟩))) (.n 1)):=⟨_,rfl⟩;rw[<-G]at l T|-;have a:=l.h;have H:=Q.trans w;have U:K pm aj e:=aF.trans (K.trans C H) l;have I:e.get dr=some (.cells [ee,cn,u] (.t tyY)):=by rw[G,a7 af];exact H.some f aa
  have i:=f.lt aa;have aq:e.get h.next=some (.cells [.int .i64 c.af,aA c.v] (.t tyK)):=by
   have b:cR<h.next:=by
    obtain⟨_,s,_⟩:=ag;exact f.lt s
   rw[G,a7 (by omega)];exact w.some d R
  have aZ:b9 e u (hI (r.j.take p) ab.v0):=(aK.up H).up l;have d:=h0.k z U;have V:=d.t;rw[cO (b:=ai 1) (show 0<B by omega)]at V;obtain⟨az,ar,_,f⟩:=d.v (by omega);obtain⟨_,_,qv,_,_,w3,d⟩:=f j (by omega);have f:ab.L.v j=ab.v0 j:=aT o;have W:=d.v;rw[f]at W;have f4:=D.up l;obtain⟨d,X,_,_⟩:=id T;have a1:d[j]? = some (.pointer (some ⟨E,0,none⟩)):=by
   have:e.get cR=some (.cells (S.set j (.pointer (some ⟨E,0,none⟩))) (.n 1)):=by rw[G];exact b1
   rw[X]at this;cases this;rw[uX ao]
  have y0:=a.lt I;have y1:=a.lt aq;have y2:=a.lt X;have y3:=a.lt V;have y4:=a.lt ar;simp[-EA];refine cy.of a.ah rfl ?_;have g:K pm e (e.up 20):=(K.refl a).up 20;simp[b7,a.none,a.J,I,aq,hj,X,a1,o,V,ar,w3,show j<B by omega];have dj:=λm=>nO (f4.up g) (W.up g) (g.some a I) m;have au:=jg (k:=10000) ak (by decide);have av:=LG A o;refine eM g.h (az:=[.pointer (some ⟨E,0,none⟩),qv]) (by simp[a.none]) (by simp) (by simp) rfl (λal v=>pY M.tozg v (f4.up g).of (W.up g).of (au.bw (by decide)) (av.bw (by decide))) ?_;rintro d _ x f6;have e:=x.res a;simp;have a6:aS (hI (r.j.take p) ab.v0) 21000000:=by
   refine en (N7 (t:=10000) λb f=>?_) ?_
   ·obtain⟨n,_,O,h4⟩:=N.all b (sH f);exact⟨n,LG A (by omega)⟩
   ·have n:(r.j.take p).length<=1000:=aY (List.take_sublist _ _).length_le aM;have O:(r.j.take p).length*(10000+10001)<=20001000:=aY (gK n (bg _)) (by decide);exact aY (Cz O) (by decide)
  refine gS x.h (az:=[u,d]) (by simp[e]) (by simp) (by simp) rfl (λal v=>q5 M.tozg v ((aZ.up g).up x).of f6.of (a6.bw (by decide)) ((kt au av).bw (by decide))) ?_;rintro _ H7 Y f7;have x7:=(K.trans x Y).res a;have J:=g.trans (x.trans Y);have aw:=J.some a I;obtain⟨ub,rfl,_⟩:=id f7;simp[x7,aw,aV,cj,cd,y0,y1,y2,y3,y4, dM,dj];have d:aF pm aj.next H7 (H7.put dr (.cells [ee,cn,.pointer (some ⟨ub,0,none⟩)] (.t tyY))):=aF.put (.refl Y.h) ad aw (by simp) _;have e:r.j.take (p+1)=r.j.take p++[c]:=by rw[List.take_add_one,e5];rfl
  refine⟨aF.trans (K.trans U J) d,(((uu.trans (H.mono C.next)).trans l).trans (J.mono U.next)).trans d,?_,?_⟩
  ·rw[e,N6,ah];exact f7.up d
  ·have b:=(T.k a J).ext d λy s=>by rw[a7 (Ne.symm af)];exact s
   refine b.congr λy F=>?_;rw[e,hV,List.foldl_append];show hX (hV (r.j.take p)) c y=_;rw[hX,ah]
 ·rintro u _ ⟨c,d,e,a,b⟩;rw[List.take_length]at a b;simp[-ta];exact aI _ _ u c d e a b (by simp)
end
abbrev tyR:Nat:=T.T3
section
variable{ak:Nat}{ai:Nat->Nat}{lc bo:Value}{ab:aI}{gi:Option Addr}{gj:Nat}
theorem J5{i:Nat}:ab.q.ah (ab.a.length+i)=if(ab.row i).kind=1 then none else fc (ab.row i).rhs:=by
 show(if ab.a.length+i<ab.a.length then _ else if(ab.row (ab.a.length+i-ab.a.length)).kind=1 then none else fc (ab.row (ab.a.length+i-ab.a.length)).rhs)=_;rw[aC (by omega),show ab.a.length+i-ab.a.length=i by omega]
theorem J6{i:Nat}:ab.q.up (ab.a.length+i)=if(ab.row i).kind=3 then none else fc (ab.row i).rhs:=by
 show(if ab.a.length+i<ab.a.length then _ else if(ab.row (ab.a.length+i-ab.a.length)).kind=3 then none else fc (ab.row (ab.a.length+i-ab.a.length)).rhs)=_;rw[aC (by omega),show ab.a.length+i-ab.a.length=i by omega]
theorem Lu{i:Nat}:ab.L.v (ab.a.length+i)=hI (ab.row i).j ab.v0:=by
 show(if ab.a.length+i<ab.a.length then _ else hI (ab.row (ab.a.length+i-ab.a.length)).j ab.v0)=_;rw[aC (by omega),show ab.a.length+i-ab.a.length=i by omega]
theorem Qu(v:ep X)(b:bs pm aj)(c:K pm aj H)(I:pm.ah<=ak)(e:ak<=aj.next)(k:ab.ok)(J:ab.I=true){i:Nat}(aJ:i<ab.rows.length)(l:fB ab.q ak aj ai (.slice gi ab.a.length gj) bo (ab.a.length+i) i ab.a.length ab.L){bP:Value}(M:gB aj bP (ab.row i).j){aE d dr:Nat}{N w:cz}{ee cn u:Value}(x:aj.next<=dr)
 (y:aj.get aE=some (.cells [.slice gi ab.a.length gj,bo] N)) (O:aE<ak) (z:H.get d=some (.cells ((ab.row i).cells bP) w)) (A:H.get dr=some (.cells [ee,cn,u] (.t tyY))) (P:b9 H u 0) (B:eJ H ee (ab.q.ah (ab.a.length+i))) (C:eJ H cn (ab.q.up (ab.a.length+i)))
 {L:bb} (D:aK 1 L=some (.pointer (some ⟨aE,0,none⟩))) (R:aK 3 L=some (.pointer (some ⟨ai 0,0,none⟩))) (S:aK 7 L=some (.int .i64 (i:Int)))
 (T:aK 8 L=some (.pointer (some ⟨d,0,none⟩))) (U:aK 9 L=some (.pointer (some ⟨dr,0,none⟩))) {k':Value} (V:aK 57 L=some k') (W:aK 58 L=some (.int .i64 (ab.rows.length:Int))) (Y:aK 59 L=some (.int .i64 (i:Int))) {Q:b5}
 (Z:∀aN aa E,aF pm ak aj aa->E 0=ai 0->fB ab.q ak aa E (.slice gi ab.a.length gj) bo (ab.a.length+(i+1)) (i+1) ab.a.length ab.L->Sub [(59,.int .i64 (i:Int)),(58,.int .i64 (ab.rows.length:Int)),(1,.pointer (some ⟨aE,0,none⟩)),(3,.pointer (some ⟨ai 0,0,none⟩)),(57,k')] aN->Q .normal aN aa):
 wp X pm (.code q0) L H [] Q:=by
 have av:=k.c;have g:=c.h;have ad:=c.some b y;obtain⟨cR,o⟩:∃ae,ae=H.next:=⟨_,rfl⟩;obtain⟨f,p⟩:∃f,f=H.new (.cells (times [.pointer none] ab.a.length) (.n 1)):=⟨_,rfl⟩;have h:K pm H f:=by rw[p];exact K.new g _
 have d1:dI f cR ab.a.length 0 λ_=>0:=⟨_,by rw[p,o];exact b4,vv _ _,λi aJ=>absurd aJ (hz _)⟩;have q:aj.next<=cR:=by rw[o];exact c.next
 have af:pm.may cR=true:=g.may (by omega);have lx:=g.lt A;have aw:=g.lt z;have r:dr≠cR:=by omega
 have ag:d≠cR:=by omega
 simp[D,ad,lK g.tobR (show ab.a.length<=1073741824 by omega) (show 8*ab.a.length<=17179869184 by omega),<-p,<-o,-Es,-vH]
 refine eE (σ:=Unit) ab.a.length (λ_ _=>[(1,.pointer (some ⟨aE,0,none⟩)),(3,.pointer (some ⟨ai 0,0,none⟩)),(7,.int .i64 (i:Int)),(8,.pointer (some ⟨d,0,none⟩)),(9,.pointer (some ⟨dr,0,none⟩)),(10,.slice (some ⟨cR,0,none⟩) ab.a.length ab.a.length),(57,k'),(58,.int .i64 (ab.rows.length:Int)),(59,.int .i64 (i:Int))])
  (λa _ aa=>K pm aj aa/\aa.get d=some (.cells ((ab.row i).cells bP) w)/\aa.get dr=some (.cells [ee,cn,u] (.t tyY))/\aF pm aj.next H aa/\dI aa cR ab.a.length a λ_=>0) () (by decide) (by omega) (by simp[D,R,S,T,U,V,W,Y]) ⟨c.trans h,h.some g z,h.some g A,h.mono c.next,d1⟩ (by simp) ?_ ?_
 ·rintro s _ _ u ⟨t,K,L,Q,X⟩;have i:=t.h;simp[-ED];refine aq.of (az:=[.int .i64 0]) (by simp) (by simp) (o0 v.tozg i (n:=0) (by omega) (by omega)) ?_;rintro _ _ ⟨a,F⟩;obtain⟨ps,G,a2,a3⟩:=X.k i a;obtain⟨H,d4⟩:=dI.put (m:=aj.next) a.h q G a2 a3 u F (dd:=s+1) (λj hj=>by omega);obtain⟨_,rfl,_⟩:=id F;simp[G,u,af,show s<ps.length by omega];refine⟨aF.trans (t.trans a) H,?_,?_,(Q.trans (a.mono t.next)).trans H,d4.congr λj hj=>?_⟩
  ·rw[a7 ag];exact a.some i K
  ·rw[a7 r];exact a.some i L
  ·by_cases m:j=s<;>simp[m]
 ·rintro _ _ ⟨t,u,F,a,G⟩;simp[-vH];refine Qp v b t k J aJ (e9 _ _) l (aI.rowAt aJ) M x q r u F (P.up a) G (v1:=.pointer (some ⟨aE,0,none⟩)) (k':=k') (by simp) (by simp) (by simp) (by simp) (by simp) (by simp) (by simp) (by simp) (by simp) λaN aa _ dd m H n K s=>?_;simp only[ts]at s;obtain⟨L,Q,X,j9,ab,ah,ai,aj,_⟩:=s;have ak:=λj i=>l.lt b (j:=j) i;refine Qt dd.h I (aY e dd.next) k aJ (l.k b dd) (aE:=aE) (dr:=dr) (cR:=cR) (aY e x) (aY e q) r (λj i=>?_) H (dd.some b y) O ⟨?_,?_,?_⟩ ?_ K L Q X j9 ab ah ai aj λal bL an ao aq ar au=>?_
  ·have:=ak j i;exact⟨by omega,by omega⟩
  ·exact(B.up a).up m
  ·exact(C.up a).up m
  ·rw[Lu];exact n
  ·obtain⟨_,rfl⟩:=B.ptr;obtain⟨_,rfl⟩:=C.ptr;obtain⟨_,rfl,_⟩:=n;rename_i p1 p2 _ _;cases p1<;>cases p2<;>rfl
  ·exact Z al bL an ((dd.mono e).trans ao) aq ar au
end
section
variable{ak:Nat}{ai:Nat->Nat}{lc bo:Value}{ab:aI}{gi:Option Addr}{gj:Nat}
theorem iM.j(h:iM aj bo ab.rows){i:Nat}(aJ:i<ab.rows.length):∃a cap b off c row bP,bo=.slice a ab.rows.length cap/\a=some ⟨b,off,none⟩/\aj.get b=some c/\rowOf c=some row/\bx row (off+i*5) 5=some ((ab.row i).cells bP)/\gB aj bP (ab.row i).j:=by
 obtain⟨a,cap,rfl,d⟩:=h.at;obtain⟨b,off,c,row,_,e,f,g,j,_,bP,k,rfl,l⟩:=d i aJ;have:=aI.St k;subst this;exact⟨a,cap,b,off,c,row,bP,rfl,e,f,g,j,l⟩
theorem Qs(t:ep X)(q:bs pm aj)(aw:pm.ah<=ak)(hn:ak<=aj.next)(J:ab.ok)(hm:ab.I=true){i:Nat}(aJ:i<ab.rows.length)(h0:fB ab.q ak aj ai (.slice gi ab.a.length gj) bo (ab.a.length+i) i ab.a.length ab.L)(hr:iM aj bo ab.rows){aE:Nat}{zb:cz}
 (ax:aj.get aE=some (.cells [.slice gi ab.a.length gj,bo] zb)) (ay:aE<ak)
 {L:bb} (g:aK 1 L=some (.pointer (some ⟨aE,0,none⟩))) (h:aK 3 L=some (.pointer (some ⟨ai 0,0,none⟩))) (c:aK 57 L=some bo) (j:aK 58 L=some (.int .i64 (ab.rows.length:Int))) (e:aK 59 L=some (.int .i64 (i:Int))) {Q:b5}
 (aB:∀aN aa al,aF pm ak aj aa->al 0=ai 0->fB ab.q ak aa al (.slice gi ab.a.length gj) bo (ab.a.length+(i+1)) (i+1) ab.a.length ab.L->Sub [(59,.int .i64 (i:Int)),(58,.int .i64 (ab.rows.length:Int)),(1,.pointer (some ⟨aE,0,none⟩)),(3,.pointer (some ⟨ai 0,0,none⟩)),(57,bo)] aN->Q .normal aN aa):
 wp X pm (.code (.seq (.bj [m 61 59,o 62 (.iW 5 (.t 57) (.t 59)),o 63 (.load true 5 (.t 62)),o 8 (.alloc tyR [(.string ⟨#[]⟩),(.int .i64 (.ofNat 0)),(.slice none 0 0),(.string ⟨#[]⟩),(.string ⟨#[]⟩)]),m 7 61,⟨none,none,.store 5 (.t 8) (.t 63)⟩]) Ez)) L aj [] Q:=by
 have aD:=J.c;obtain⟨_,_,_,_,_,_,bP,M,rfl,e2,e3,N,O⟩:=iM.j hr aJ;have al:=eB (aI.rowAt aJ);have hB:=BK hm al;have P:=J.rs _ al;obtain⟨_,R,q3,q4⟩:=Kx hB P aD;have aG:=P.1;obtain⟨r,S⟩:∃r,r=ab.row i:=⟨_,rfl⟩;have T:=J5 (ab:=ab) (i:=i);have U:=J6 (ab:=ab) (i:=i);rw[<-S]at hB P R q3 q4 aG N O T U;obtain⟨bs,aH,an,_⟩:=O.at;obtain⟨d,V⟩:∃W,W=aj.next:=⟨_,rfl⟩;obtain⟨u,Y⟩:∃u,u=(aj.new (.cells [.string ⟨#[]⟩,.int .i64 0,.slice none 0 0,.string ⟨#[]⟩,.string ⟨#[]⟩] (.t tyR))).put d (.cells [aA r.name,.int .i64 r.kind,.slice bs r.j.length aH,aA r.rhs,aA r.kp] (.t tyR)):=⟨_,rfl⟩;have Z:K pm aj u:=by rw[Y,V];exact ic q _ _ (by simp)
 have ao:u.get d=some (.cells (r.cells bP) (.t tyR)):=by rw[Y,an];exact b1
 have g1:=Z.h;have u:∀x,(aj.new x).get d=some x:=λx=>by rw[V];exact b4
 have P:pm.may d=true:=q.may (by omega);rw[M]at c;rw[an]at N;simp[c,e,aJ,e2,e3,N,q.pick,q.make,P,u,ptr,bB,bQ.cells,<-Y,<-V,-EG,-Ey];refine aq.of (az:=[.int .i64 0]) (by simp) (by simp) (o0 t.tozg g1 (n:=0) (by omega) (by omega)) ?_;rintro _ v ⟨w,f0⟩;have y:=w.h;obtain⟨l,rfl,_⟩:=id f0;obtain⟨a,z⟩:∃W,W=v.next:=⟨_,rfl⟩;obtain⟨p,ae⟩:∃p,p=(v.new (.cells [.pointer none,.pointer none,.pointer none] (.t tyY))).put a (.cells [.pointer none,.pointer none,.pointer (some ⟨l,0,none⟩)] (.t tyY)):=⟨_,rfl⟩;have u:K pm v p:=by rw[ae,z];exact ic y _ _ (by simp)
 have A:=u.h;have ar:p.get a=some (.cells [.pointer none,.pointer none,.pointer (some ⟨l,0,none⟩)] (.t tyY)):=by rw[ae];exact b1
 have N:=w.trans u;have af:=Z.trans N;have B:=N.some g1 ao;have N:∀x,(v.new x).get a=some x:=λx=>by rw[z];exact b4
 have ag:pm.may a=true:=y.may (by omega);have ah:aj.next<=a:=by rw[z];exact(Z.trans w).next
 have au:d≠a:=by
  have:=(w.next);have:=g1.lt ao;omega
 simp[y.pick,y.make,ptr,N,<-z,ag,bB,<-ae,B,bQ.cells,-q1,-Ex]
 have av:∀(b:ad) (s:Option Addr) (L:bb),K pm aj b->aF pm aj.next p b->b.get d=some (.cells (r.cells bP) (.t tyR))->b.get a=some (.cells [.pointer s,.pointer none,.pointer (some ⟨l,0,none⟩)] (.t tyY))->eJ b (.pointer s) (ab.q.ah (ab.a.length+i))->
  aK 1 L=some (.pointer (some ⟨aE,0,none⟩))->aK 3 L=some (.pointer (some ⟨ai 0,0,none⟩))->aK 7 L=some (.int .i64 (i:Int))->aK 8 L=some (.pointer (some ⟨d,0,none⟩))->aK 9 L=some (.pointer (some ⟨a,0,none⟩))->aK 57 L=some bo->aK 58 L=some (.int .i64 (ab.rows.length:Int))->aK 59 L=some (.int .i64 (i:Int))->wp X pm (.code q1) L b [] Q:=by
  intro b s L o w C v x g h D m n c j e;have E:=o.h;have y:=(f0.up u).up w;have aa:=λ(f:ad) (u:Option Addr) (L:bb) (k:K pm aj f) (w:aF pm aj.next b f) (z:f.get d=some (.cells (r.cells bP) (.t tyR))) (F:f.get a=some (.cells [.pointer s,.pointer u,.pointer (some ⟨l,0,none⟩)] (.t tyY))) (N:eJ f (.pointer u) (ab.q.up (ab.a.length+i))) (g:aK 1 L=some (.pointer (some ⟨aE,0,none⟩))) (h:aK 3 L=some (.pointer (some ⟨ai 0,0,none⟩))) (D:aK 7 L=some (.int .i64 (i:Int))) (m:aK 8 L=some (.pointer (some ⟨d,0,none⟩))) (n:aK 9 L=some (.pointer (some ⟨a,0,none⟩))) (c:aK 57 L=some bo) (j:aK 58 L=some (.int .i64 (ab.rows.length:Int))) (e:aK 59 L=some (.int .i64 (i:Int)))=>
   Qu t q k aw hn J hm aJ h0 (bP:=bP) (by rw[<-S];exact O) ah ax ay (by rw[<-S];exact z) F (by simpa using y.up w) (x.up w) N g h D m n c j e (Q:=Q) aB
  simp[m,C,bQ.cells,-Ew,-q0];by_cases G:r.kind=3
  ·have d:(r.kind==3)=true:=by simpa using G
   simp[d,-q0];refine aa b none _ o (aF.refl E) C v (by rw[U,aT G];rfl) (by simp[g]) (by simp[h]) (by simp[D]) (by simp[m]) (by simp[n]) (by simp[c]) (by simp[j]) (by simp[e])
  ·have d:(r.kind==3)=false:=by simpa using G
   simp[d,m,C,bQ.cells,-q0,-EE];refine aq.of (az:=[aA r.rhs]) (by simp) (by simp) (td t E (by omega) λ_=>R) ?_;rintro _ f ⟨k,L⟩;have F:=k.some E v;obtain⟨Q,rfl⟩:=L.ptr;obtain⟨i,H⟩:∃i,i=f.put a (.cells [.pointer s,.pointer Q,.pointer (some ⟨l,0,none⟩)] (.t tyY)):=⟨_,rfl⟩;have d:aF pm aj.next f i:=by rw[H];exact aF.put (.refl k.h) ah F (by simp) _
   simp[n,F,ag,<-H,-q0];refine aa i Q _ (aF.trans (K.trans o k) d) ((k.mono o.next).trans d) (by rw[H,a7 au];exact k.some E C) (by rw[H];exact b1) (by rw[U,aC G];exact L.up d) (by simp[g]) (by simp[h]) (by simp[D]) (by simp[m]) (by simp[n]) (by simp[c]) (by simp[j]) (by simp[e])
 by_cases I:r.kind=1
 ·have d:(r.kind==1)=true:=by simpa using I
  simp[d,-q1];refine av p none _ af (aF.refl A) B ar (by rw[T,aT I];rfl) (by simp[g]) (by simp[h]) (by simp) (by simp) (by simp) (by simp[c,M]) (by simp[j]) (by simp[e])
 ·have d:(r.kind==1)=false:=by simpa using I
  simp[d,B,bQ.cells,-q1,-EF];refine aq.of (az:=[aA r.rhs]) (by simp) (by simp) (td t A (by omega) λ_=>R) ?_;rintro _ b ⟨f,m⟩;have n:=f.some A ar;obtain⟨o,rfl⟩:=m.ptr;obtain⟨i,k⟩:∃i,i=b.put a (.cells [.pointer o,.pointer none,.pointer (some ⟨l,0,none⟩)] (.t tyY)):=⟨_,rfl⟩;have a:aF pm aj.next b i:=by rw[k];exact aF.put (.refl f.h) ah n (by simp) _
  simp[n,ag,<-k,-q1];refine av i o _ (aF.trans (K.trans af f) a) ((f.mono af.next).trans a) (by rw[k,a7 au];exact f.some A B) (by rw[k];exact b1) (by rw[T,aC I];exact m.up a) (by simp[g]) (by simp[h]) (by simp) (by simp) (by simp) (by simp[c,M]) (by simp[j]) (by simp[e])
end
section
variable{ak:Nat}{ai:Nat->Nat}{ab:aI}
theorem Qv(o:ep X)(g:bs pm H)(l:ab.ok)(x:ab.I=true){p q:Value}(y:gC H p ab.a)(z:iM H q ab.rows):
 Call X pm F.oP [.agg #[p,q]] H λr aa=>K pm H aa/\∃ai,r=.pointer (some ⟨ai 0,0,none⟩)/\cl ab.q H.next aa ai p q ab.L:=by
 refine Call.P o.oP rfl λ_ B=>?_;have p:=l.c;have p:=l.r;obtain⟨b,c,rfl,_⟩:=y.at;obtain⟨d,e,rfl,_⟩:=z.at;obtain⟨aE,s⟩:∃t,t=H.next:=⟨_,rfl⟩;obtain⟨a,m⟩:∃a,a=H.new (.cells [.slice b ab.a.length c,.slice d ab.rows.length e] (.t tyB)):=⟨_,rfl⟩;have n:K pm H a:=by rw[m];exact K.new g _
 have h:=n.h;have u:a.get aE=some (.cells [.slice b ab.a.length c,.slice d ab.rows.length e] (.t tyB)):=by rw[m,s];exact b4
 have p:a.next=aE+1:=by rw[m,s];rfl
 obtain⟨f,i⟩:∃t,t=a.next:=⟨_,rfl⟩;obtain⟨j,v⟩:∃j,j=a.new (.cells [.slice b ab.a.length c,.slice d ab.rows.length e,.slice none 0 0,.slice none 0 0,.slice none 0 0,.slice none 0 0] (.t tyT)):=⟨_,rfl⟩;have p:K pm a j:=by rw[v];exact K.new h _
 have q:j.get f=some (.cells [.slice b ab.a.length c,.slice d ab.rows.length e,.slice none 0 0,.slice none 0 0,.slice none 0 0,.slice none 0 0] (.t tyT)):=by rw[v,i];exact b4
 have t:=p.some h u;have C:=y.ext (n.ext g);have y:=z.ext (n.ext g);have A:pm.ah<=f:=by rw[i];exact h.ah
 have w:∀{aa:ad},K pm a aa->gC aa (.slice b ab.a.length c) ab.a/\iM aa (.slice d ab.rows.length e) ab.rows/\aa.get aE=some (.cells [.slice b ab.a.length c,.slice d ab.rows.length e] (.t tyB)):=λk=>⟨C.ext (k.ext h),y.ext (k.ext h),k.some h u⟩;simp[g.pick,g.make,ptr,<-s,<-m,u,bB,bx,setCells,  <-i,<-v,t,-Eu,-EB];have D:fB ab.q f j (λ_=>f) (.slice b ab.a.length c) (.slice d ab.rows.length e) 0 0 0 ab.L:=by
  refine⟨q,λh=>absurd h (Nat.lt_irrefl 0),λh=>absurd h (Nat.lt_irrefl 0),λh=>absurd h (Nat.lt_irrefl 0),λh=>absurd h (Nat.lt_irrefl 0),λh g=>absurd g (hz _),λh _ g h _=>?_,λ_ _=>bg _⟩;unfold Real at g h;omega
 refine eE (σ:=Unit) ab.a.length (λ_ _=>[(1,.pointer (some ⟨aE,0,none⟩)),(3,.pointer (some ⟨f,0,none⟩)),(18,.slice b ab.a.length c)])
  (λk _ aa=>K pm a aa/\∃ai,ai 0=f/\fB ab.q f aa ai (.slice b ab.a.length c) (.slice d ab.rows.length e) k 0 k ab.L) () (by decide) (by omega) (by simp) ⟨p,_,rfl,D⟩ (by simp) ?_ ?_
 ·rintro k _ _ j ⟨g,ai,h,k⟩;obtain⟨m,_,_⟩:=w g;refine Qr o g.h A (by rw[i];exact g.next) l x j k (aE:=aE) m (by simp) (by simp[h]) (by simp) (by simp) (by simp) λ_ aa k u m p j=>?_;rw[h]at j;simp;refine⟨by simpa using j,aF.trans g (u.mono (by omega)),k,m.trans h,p⟩
 ·rintro _ _ ⟨j,ai,g,p⟩;obtain⟨q,k,h⟩:=w j;simp[h,-Et]
  refine eE (σ:=Unit) ab.rows.length (λ_ _=>[(1,.pointer (some ⟨aE,0,none⟩)),(3,.pointer (some ⟨f,0,none⟩)),(57,.slice d ab.rows.length e)])
   (λm _ aa=>K pm a aa/\∃ai,ai 0=f/\fB ab.q f aa ai (.slice b ab.a.length c) (.slice d ab.rows.length e) (ab.a.length+m) m ab.a.length ab.L) () (by decide) (by omega) (by simp) ⟨j,ai,g,p⟩ (by simp) ?_ ?_
  ·rintro _ _ _ b ⟨a,ai,g,c⟩;obtain⟨q,k,h⟩:=w a;refine Qs o a.h A (by rw[i];exact a.next) l x b c k h (by omega) (by simp) (by simp[g]) (by simp) (by simp) (by simp) λ_ aa c u d e b=>?_;rw[g]at b;simp;refine⟨by simpa using b,aF.trans a (u.mono (by omega)),c,d.trans g,e⟩
  ·rintro _ _ ⟨a,ai,g,b⟩;simp;obtain⟨c,d,e⟩:=fB.full (P:=ab.q) b a.h (by rw[i];exact a.next);refine B _ _ _ ?_;simp;exact⟨n.trans a,c,(d.trans g).symm,e.mono (by omega)⟩
end
abbrev tyA:Nat:=T.TX
abbrev tySB:Nat:=T.TW
structure hE where
 st:Int
 val:List UInt8
 x:List (List UInt8)
 d:List (List UInt8)
 r:List (List UInt8)
def vZ(H:ad)(v:Value)(a:hE):Prop:=∃b c d,v=.agg #[.int .i64 a.st,aA a.val,b,c,d]/\iN H b a.x/\iN H c a.d/\iN H d a.r
theorem vZ.ext{v:Value}{a:hE}(h:vZ H v a)(e:Ext H aa):vZ aa v a:=by
 obtain⟨a,b,c,rfl,d,f,g⟩:=h;exact⟨a,b,c,rfl,d.ext e,f.ext e,g.ext e⟩
theorem iN.nil:iN H (.slice none 0 0) []:=⟨none,0,rfl,λ_ a=>absurd a (hz _)⟩
def h3(H:ad)(ak:Nat)(v:Value)(l:List (List UInt8)):Prop:=iN H v l/\∀b a m c,v=.slice (some ⟨b,a,none⟩) m c->ak<=b/\∃y,H.get b=some y
theorem h3.nil{ak:Nat}:h3 H ak (.slice none 0 0) []:=⟨.nil,λ_ _ _ _ h=>(by cases h)⟩
theorem h3.ext{ak:Nat}{v:Value}{l:List (List UInt8)}(h:h3 H ak v l)(e:Ext H aa):h3 aa ak v l:=⟨h.1.ext e,λb o m c q=>⟨(h.2 b o m c q).1,(h.2 b o m c q).2.imp λ_ a=>e _ _ a⟩⟩
theorem h3.mono{ak cf:Nat}{v:Value}{l:List (List UInt8)}(h:h3 H ak v l)(e:cf<=ak):h3 H cf v l:=⟨h.1,λb o m c q=>⟨aY e (h.2 b o m c q).1,(h.2 b o m c q).2⟩⟩
theorem h3.put{ak c:Nat}{v:Value}{l:List (List UInt8)}(h:h3 H ak v l)(a:c<ak)(x:bk):h3 (H.put c x) ak v l:=by
 refine⟨?_,λb o m a q=>⟨(h.2 b o m a q).1,(h.2 b o m a q).2.imp λy d=>by rw[a7 (by have:=(h.2 b o m a q).1;omega)];exact d⟩⟩;obtain⟨e,f,rfl,g⟩:=h.1.ex;refine⟨e,f,rfl,λi j=>?_⟩;obtain⟨b,c,y,k,u,rfl,l,n⟩:=g i j;have:=(h.2 b c _ _ rfl).1;exact⟨b,c,y,k,u,rfl,by rw[a7 (by omega)];exact l,n⟩
theorem dT.fw{c k ak:Nat}{f:Nat->List UInt8}(h:dT H c k f)(a:ak<=c):h3 H ak (.slice (some ⟨c,0,none⟩) k k) ((List.range k).map f):=
 ⟨h.strs,λ_ _ _ _ e=>by
  cases e;obtain⟨_,b,_⟩:=h;exact⟨a,_,b⟩⟩
def iK(H:ad)(ak:Nat)(v:Value)(a:hE):Prop:=∃b c d,v=.agg #[.int .i64 a.st,aA a.val,b,c,d]/\h3 H ak b a.x/\h3 H ak c a.d/\h3 H ak d a.r
theorem iK.ext{ak:Nat}{v:Value}{a:hE}(h:iK H ak v a)(e:Ext H aa):iK aa ak v a:=by
 obtain⟨a,b,c,rfl,d,f,g⟩:=h;exact⟨a,b,c,rfl,d.ext e,f.ext e,g.ext e⟩
theorem iK.mono{ak cf:Nat}{v:Value}{a:hE}(h:iK H ak v a)(e:cf<=ak):iK H cf v a:=by
 obtain⟨a,b,c,rfl,d,f,g⟩:=h;exact⟨a,b,c,rfl,d.mono e,f.mono e,g.mono e⟩
theorem iK.put{ak c:Nat}{v:Value}{a:hE}(h:iK H ak v a)(b:c<ak)(x:bk):iK (H.put c x) ak v a:=by
 obtain⟨a,c,d,rfl,e,f,g⟩:=h;exact⟨a,c,d,rfl,e.put b x,f.put b x,g.put b x⟩
def kW(ab:aI)(T:bd):List (List UInt8):=(List.range ab.q.n).map λj=>cZ (T.v j)
def Oa(ab:aI)(T:bd):List (List UInt8):=(List.range ab.q.m).map (kF ab.q T (red ab.q ab.cs T) ab.q.n)
def yT(ab:aI)(xs:List (List UInt8)):List UInt8:=match oG ab xs with
 | some v=>cZ v
 | none=>[]
inductive p0(ab:aI)(mn lf:bd->Prop):hE->Prop
 | inf (T:bd) (a:Nat):mn T->kv ab.q T=some a->kM ab.q T a (off ab.q T.v (T.rows a))=none->p0 ab mn lf ⟨2,[],[],(List.range ab.q.m).map (k8 ab.q T a),[]⟩
 | qW (T:bd) (af:Nat):lf T->enters ab.q ab.cs T=some af->(dn ab.q T af (hp ab.q ab.cs T af) ab.q.m).Y=none->p0 ab mn lf ⟨3,[],kW ab T,[],(List.range ab.q.n).map (pH T af (hp ab.q ab.cs T af) ab.q.m)⟩
 | opt (T:bd):lf T->enters ab.q ab.cs T=none->p0 ab mn lf ⟨1,yT ab (kW ab T),kW ab T,Oa ab T,[]⟩
structure tm(ab:aI)(mn lf:bd->Prop)(t:Nat):Prop where
 t1:1<=t
 s7:t<=20000
 s1:mn ab.L
 g1:∀T,mn T->Inv ab.q T/\gQ ab.q T t/\Ends (hr ab.q) T
 cf:∀T tt,mn T->hr ab.q T=some tt->mn tt
 s2:∀T,mn T->kv ab.q T=none->lf T
 g2:∀T,lf T->Inv ab.q T/\gQ ab.q T t/\Ends (gk ab.q ab.cs) T
 fR:∀T tt,lf T->gk ab.q ab.cs T=some tt->lf tt
 yL:∀T,lf T->o4 (kW ab T)
theorem Ga(d:ep X)(g:bs pm H){ab:aI}(e:ab.ok){v:Value}(hv:iL H v ab){L M:bd->Prop}{t:Nat}(hR:ab.I=true->tm ab L M t):
 Call X pm F.nr [v] H λr aa=>K pm H aa/\(ab.I=false/\r=.tuple #[.agg #[.int .i64 0,aA [],.slice none 0 0,.slice none 0 0,.slice none 0 0],.bool false]∨ab.I=true/\∃a u,r=.tuple #[u,.bool true]/\iK aa H.next u a/\p0 ab L M a):=by
 refine Call.P d.nr rfl λ_ B=>?_;have ag:=hv;obtain⟨_,_,rfl,C,N⟩:=hv;obtain⟨l,m,rfl,_⟩:=C.at;obtain⟨o,p,rfl,_⟩:=N.at;obtain⟨b0,ah⟩:∃O,O=H.next:=⟨_,rfl⟩;obtain⟨q,P⟩:∃q,q=H.new (.cells [.slice l ab.a.length m,.slice o ab.rows.length p] (.t tySB)):=⟨_,rfl⟩;have Q:K pm H q:=by rw[P];exact K.new g _
 have g1:=Q.h;have an:q.get b0=some (.cells [.slice l ab.a.length m,.slice o ab.rows.length p] (.t tySB)):=by rw[P,ah];exact b4
 obtain⟨h,ai⟩:∃O,O=q.next:=⟨_,rfl⟩;obtain⟨D,S⟩:∃D,D=q.new (.cells [.int .i64 0,.string ⟨#[]⟩,.slice none 0 0,.slice none 0 0,.slice none 0 0] (.t tyA)):=⟨_,rfl⟩;have O:K pm q D:=by rw[S];exact K.new g1 _
 have T:=O.h;have ao:D.get h=some (.cells [.int .i64 0,.string ⟨#[]⟩,.slice none 0 0,.slice none 0 0,.slice none 0 0] (.t tyA)):=by rw[S,ai];exact b4
 have aj:=O.some g1 an;have ak:=Q.trans O;have q:=Q.next;have E:pm.may h=true:=g.may (by omega);simp[g.pick,g.make,ptr,<-ah,<-P,  <-ai,<-S,aj,bx,bB,-DK,-DM,-DV];refine aq.of (az:=[.agg #[.slice l ab.a.length m,.slice o ab.rows.length p]]) (by simp) (by simp) (zf d.toiO T (ag.ext (ak.ext g)) e) ?_;rintro _ H3 ⟨G,rfl⟩;have s:=G.h;have x:=ak.trans G;have I:=G.some T ao;have al:=G.some T aj
 cases j:ab.I with
 | false=>
   simp[I,E,setCells];refine B _ _ _ ?_;simp[dG,bB,bx,j];have:=aF.put (n:=H.next) (.refl s) (show H.next<=h by omega) I (by simp) (.cells [.int .i64 0,.string ⟨#[]⟩,.slice none 0 0,.slice none 0 0,.slice none 0 0] (.t tyA));exact aF.trans x this
 | true=>
   have R:=hR j;simp[al,bx,bB,-DJ,-DU];refine aq.of (az:=[.agg #[.slice l ab.a.length m,.slice o ab.rows.length p]]) (by simp) (by simp) (Qv d s e j (C.ext (x.ext g)) (N.ext (x.ext g))) ?_;rintro _ H4 ⟨r,k,rfl,q⟩;have U:=x.trans r;have D:=r.h;have i:=ab.QT;have po:=i.ok e;have V:∀{aa:ad},aF pm H3.next H4 aa->K pm H aa/\gC aa (.slice l ab.a.length m) ab.a/\iM aa (.slice o ab.rows.length p) ab.rows/\aa.get h=some (.cells [.int .i64 0,.string ⟨#[]⟩,.slice none 0 0,.slice none 0 0,.slice none 0 0] (.t tyA))/\aa.get b0=some (.cells [.slice l ab.a.length m,.slice o ab.rows.length p] (.t tySB)):=λu=>by
    have a:K pm H3 _:=aF.trans r u;have b:=K.trans x a;exact⟨b,C.ext (b.ext g),N.ext (b.ext g),a.some s I,a.some s al⟩
   simp[-DT,-DI,-DH];refine aq.of (az:=[.pointer (some ⟨k 0,0,none⟩)]) (by simp) (by simp) (Ou d D s.ah r.next po L R.t1 R.s7 R.g1 R.cf q R.s1) ?_;rintro _ _ ⟨W,v,t5,X,h5⟩;have Y:=v.h;obtain⟨ar,c5,r5,au,_⟩:=V v;obtain⟨av,aw,_⟩:=R.g1 W X;have F:=R.s7;have Z:∀{aa:ad} (q:List Value),K pm H aa->aa.get h=some (.cells [.int .i64 0,.string ⟨#[]⟩,.slice none 0 0,.slice none 0 0,.slice none 0 0] (.t tyA))->K pm H (aa.put h (.cells q (.t tyA)))/\aF pm H.next aa (aa.put h (.cells q (.t tyA))):=λq w f=>by
    have u:=aF.put (n:=H.next) (.refl w.h) (show H.next<=h by omega) f (by simp) (.cells q (.t tyA));exact⟨aF.trans w u,u⟩
   have y:∀c,H4.next<=c->h≠c:=λc C=>by
    have:=s.lt I;have:=r.next;omega
   rcases h5 with⟨hw,rfl⟩ | ⟨a,hw,HZ,rfl⟩
   ·simp[-DR,-DG,-DO];refine aq.of (az:=[.pointer (some ⟨k 0,0,none⟩)]) (by simp) (by simp) (NZ d Y s.ah (aY r.next v.next) e j i c5 (λaa u=>(V (v.trans u)).2.1) M R.t1 R.s7 R.g2 R.fR t5 (R.s2 W X hw)) ?_;rintro _ _ ⟨a,q,n,H,h6⟩;have h:=v.trans q;have b:=h.h;obtain⟨K,z,r6,ad,ax⟩:=V h;obtain⟨ae,A,_⟩:=R.g2 a H;have q:=h.next
    rcases h6 with⟨he,rfl⟩ | ⟨af,he,HY,rfl⟩
    ·simp[-DN,-DX];refine aq.of (az:=[.pointer (some ⟨k 0,0,none⟩)]) (by simp) (by simp) (Ke d b e i n z F A) ?_;rintro _ _ ⟨u,c,rfl,_,s7⟩;have h:=K.trans u;have q:=u.some b ax;have r:=u.some b ad;have g7:=u.h;simp[q,bx,bB,-DW,-DL];refine aq.of (az:=[.agg #[.slice l ab.a.length m,.slice o ab.rows.length p],.slice (some ⟨c,0,none⟩) ab.q.n ab.q.n]) (by simp) (by simp) (MK d.toiO g7 (ag.ext (h.ext g)) e s7.strs (R.yL a H)) ?_;rintro _ _ ⟨k8,rfl⟩;have J:=u.trans k8;have g8:=k8.h;have af:s8 (oG ab (kW ab a))=.tuple #[aA (yT ab (kW ab a)),.bool (oG ab (kW ab a)).isSome]:=by
      unfold yT;cases oG ab (kW ab a)<;>rfl
     rw[show(List.map (λh=>cZ (a.v h)) (List.range ab.q.n))=kW ab a from rfl,af];simp[-DQ];refine aq.of (az:=[.pointer (some ⟨k 0,0,none⟩)]) (by simp) (by simp) (Kp d g8 e j i (n.k b J) (z.ext (J.ext b)) ae.y (t:=t) (by omega) A) ?_;rintro h _ ⟨k9,l⟩;have g:=J.trans k9;have m:=k9.h;have o:∀w,w<ab.q.n->aS (red ab.q ab.cs a w) 10000000:=λw p=>en (yl e i A p (bg _)) (by
      have p:=po.m;have:ab.q.m*(10001+t)<=40*30001:=gK p (by omega);omega)
     simp[-DP];refine aq.of (az:=[.pointer (some ⟨k 0,0,none⟩),h]) (by simp) (by simp) (Hj d m e i (n.k b g) (z.ext (g.ext b)) (r6.ext (g.ext b)) ae.y l (jj:=10000000) (by omega) o) ?_;rintro _ _ ⟨aa,f,rfl,_,ay⟩;have h:=g.trans aa;have l:=h.some b ad;have m:=J.next;have m:=g.next;obtain⟨g,_⟩:=Z [.int .i64 1,aA (yT ab (kW ab a)),.slice (some ⟨c,0,none⟩) ab.q.n ab.q.n,.slice (some ⟨f,0,none⟩) ab.q.m ab.q.m,.slice none 0 0] (K.trans h) l;simp[l,E,setCells,bB];refine B _ _ _ ?_;simp[dG,bx,bB,j];refine⟨g,_,?_,.opt a H he⟩;have g:=U.next;exact⟨_,_,_,rfl,((s7.k g7 (k8.trans (k9.trans aa))).e7 (y c (by omega)) _).fw (by omega),(ay.e7 (y f (by omega)) _).fw (by omega),.nil⟩
    ·have t:=tF he;simp[-DZ];refine aq.of (az:=[.pointer (some ⟨k 0,0,none⟩)]) (by simp) (by simp) (Ke d b e i n z F A) ?_;rintro _ _ ⟨g,c,rfl,_,s7⟩;have u:=g.h;obtain⟨t,J,_⟩:=lr he;simp only[b3,df]at J;have aa:hp ab.q ab.cs a af=1∨hp ab.q ab.cs a af=-1:=by
      unfold hp
      rcases jH J.1 with⟨_,f⟩ | ⟨_,f⟩<;>rw[f]<;>simp
     simp[-DY];refine aq.of (az:=[.pointer (some ⟨k 0,0,none⟩),.int .i64 (af:Int),.int .i64 (hp ab.q ab.cs a af)]) (by simp) (by simp) (R7 d u e i (n.k b g) (z.ext (g.ext b)) ae.y F A t aa) ?_;rintro _ _ ⟨k8,f,rfl,_,s8⟩;have h:=g.trans k8;have l:=h.some b ad;have b:=g.next;obtain⟨b,_⟩:=Z [.int .i64 3,.string ⟨#[]⟩,.slice (some ⟨c,0,none⟩) ab.q.n ab.q.n,.slice none 0 0,.slice (some ⟨f,0,none⟩) ab.q.n ab.q.n] (K.trans h) l;simp[l,E,setCells,bB];refine B _ _ _ ?_;simp[dG,bx,bB,j];refine⟨b,_,?_,.qW a af H he HY⟩;have a:=U.next;exact⟨_,_,_,rfl,((s7.k u k8).e7 (y c (by omega)) _).fw (by omega),.nil,(s8.e7 (y f (by omega)) _).fw (by omega)⟩
   ·obtain⟨f,_⟩:=lr hw;simp[-DS];refine aq.of (az:=[.pointer (some ⟨k 0,0,none⟩),.int .i64 (a:Int)]) (by simp) (by simp) (SO d Y e i t5 c5 r5 av.y F aw f) ?_;rintro _ _ ⟨b,c,rfl,_,g⟩;have d:=b.some Y au;have e:=v.next;obtain⟨e,_⟩:=Z [.int .i64 2,.string ⟨#[]⟩,.slice none 0 0,.slice (some ⟨c,0,none⟩) ab.q.m ab.q.m,.slice none 0 0] (ar.trans b) d;simp[d,E,setCells,bB];refine B _ _ _ ?_;simp[dG,bx,bB,j];refine⟨e,_,?_,.inf W a X hw HZ⟩;have b:=U.next;exact⟨_,_,_,rfl,.nil,(g.e7 (y c (by omega)) _).fw (by omega),.nil⟩
def yM:Option Rat->List UInt8
 | some q=>cZ q
 | none=>[]
structure hE.ok(a:hE):Prop where
 x:o4 a.x
 d:o4 a.d
 r:o4 a.r
end Go.Dam.C
namespace Go.Dam.C
section
variable{P:bu}{c:Nat->Rat}{T:bd}
def hn(P:bu)(v:Nat->Rat)(x:Nat):Prop:=v x=0∨P.ah x=some (v x)∨P.up x=some (v x)
structure ho(P:bu)(s:Nat->Nat)(T:bd):Prop where
 inv:Inv P T
 rM:ff P s T≠0
 at':∀k,k<P.n->hn P T.v (T.a k)
theorem Oq{a af:Nat}(h:Inv P T)(g:nD P T a af)(c:∀k,k<P.n->hn P T.v (T.a k)):∀k,k<P.n->hn P (gW P T a af).v ((gW P T a af).a k):=by
 intro k b;show hn P (gW P T a af).v (if k=af then T.rows a else T.a k);by_cases e:k=af
 ·rw[aT e];unfold hn;rw[AI h g];unfold goal
  rcases sg g.off with⟨e4,l,g',_⟩ | ⟨e4,u,hu,_⟩
  ·rw[e4,aC (by decide),g'];exact .inr (.inl rfl)
  grind
 ·rw[aC e];have:(gW P T a af).v (T.a k)=T.v (T.a k):=by
   show(T.e6 P af _).v (T.a k)=_;rw[r8 h.y g.da b,aC e]
  have a:=c k b;unfold hn at a|-;grind
theorem ho.fit{s:Nat->Nat}(b:∀x,1<=s x)(h:ho P s T){a af:Nat}(g:nD P T a af):ho P s (gW P T a af):=
 ⟨HE h.inv g,FF (T:=T.e6 P af (qh P T a af)) b (h.inv.e6 g.da _) g.eA g.da g.mT h.rM,Oq h.inv g h.at'⟩
theorem gb.MY(h:Inv P T){af:Nat}{aG:Int}{f:fD}{q:Rat}(g:gb P c T af aG f q)(i:∀k,k<P.n->hn P T.v (T.a k)):∀k,k<P.n->hn P (gU P T af aG q f.ind).v ((gU P T af aG q f.ind).a k):=by
 intro k c
 cases b:f.ind with
 | none=>
   have a:=g.vx h.y c;rw[b]at a;show hn P (gU P T af aG q none).v (T.a k);by_cases e:k=af
   ·subst e;rw[aT rfl]at a;have d:=(g.G.own b).1;rw[g.Y]at d;unfold hn;rw[a]
    rcases g.gx with rfl | rfl
    ·obtain⟨_,_,_⟩:=vg d.symm;grind
    ·obtain⟨_,_,_⟩:=vf d.symm;grind
   ·rw[aC e]at a;have a:=i k c;unfold hn at a|-;grind
 | some a=>
   obtain⟨l,f,_,r,d,j⟩:=g.G.row a b;show hn P (gU P T af aG q (some a)).v (if k=af then T.rows a else T.a k);by_cases e:k=af
   ·rw[aT e];have k:=g.LH h.y l;rw[b]at k;rw[g.Y]at j;have l:=jt f;have l:cX (T.M a af)*q=r:=by
     have:q=r/cX (T.M a af):=jF j;have g:cX (T.M a af)≠0:=by grind
     grind
    unfold hn;rw[k]
    rcases vn g.gx f with⟨e4,cq⟩ | ⟨e4,cq⟩<;>rw[e4]at d<;>rw[cq]
    ·obtain⟨_,_,_⟩:=vg d;grind
    ·obtain⟨_,_,_⟩:=vf d;grind
   ·rw[aC e];have a:=g.vx h.y c;rw[b,aC e]at a;have a:=i k c;unfold hn at a|-;grind
theorem ho.desc{s:Nat->Nat}(a:∀x,1<=s x)(h:ho P s T){af:Nat}{aG:Int}{f:fD}{q:Rat}(g:gb P c T af aG f q):ho P s (gU P T af aG q f.ind):=by
 refine⟨g.inv h.inv,?_,g.MY h.inv h.at'⟩
 cases b:f.ind with
 | none=>exact h.rM
 | some c=>
   obtain⟨d,e,_⟩:=g.G.row c b;exact FF (T:=T.e6 P af _) a (h.inv.e6 g.da _) d g.da e h.rM
structure we(P:bu)(V:Nat):Prop where
 v1:1<=V
 ah:∀x l,P.ah x=some l->cu V l
 up:∀x u,P.up x=some u->cu V u
theorem wu{V:Nat}(h:1<=V):cu V 0:=⟨by simp,h⟩
theorem hn.cu{V:Nat}(a:we P V){v:Nat->Rat}{x:Nat}(h:hn P v x):cu V (v x):=by
 rcases h with h | h | h
 ·rw[h];exact wu a.v1
 ·exact a.ah x _ h
 ·exact a.up x _ h
structure FA(P:bu)(c:Nat->Rat)(S E C':Nat):Prop where
 p:1<=C'
 le:C'<=S
 z:∀j,j<P.n->dF ((C':Rat)*c j) E
def mo(P:bu)(s:Nat->Nat)(T:bd):Prop:=ho P s T/\ri P T
def lh(P:bu)(s:Nat->Nat)(T:bd):Prop:=ho P s T/\th P T
theorem mo.next{s:Nat->Nat}(b:∀x,1<=s x)(c:tn P){a:bd}(h:mo P s T)(e:hr P T=some a):mo P s a:=by
 obtain⟨_,_,g,rfl⟩:=HD e;exact⟨h.1.fit b g,HF c h.1.inv h.2 g⟩
theorem lh.next{s:Nat->Nat}(b:∀x,1<=s x){a:bd}(h:lh P s T)(e:gk P c T=some a):lh P s a:=by
 obtain⟨_,_,_,_,g,rfl⟩:=Hb e;exact⟨h.1.desc b g,g.AH h.1.inv h.2⟩
theorem mo.two{s:Nat->Nat}(h:mo P s T)(e:kv P T=none):lh P s T:=by
 refine⟨h.1,λx a=>?_⟩
 rcases h.1.inv.y.iR x a with⟨i,aJ,rfl⟩ | ⟨k,kN,rfl⟩
 ·have:=zz e i aJ;exact JB (by grind)
 ·exact h.2 k kN
theorem lh.ends{s:Nat->Nat}{S E V e:Nat}(b:lp P s S E)(d:we P V)(a:FA P c S E e)(h:lh P s T):Ends (gk P c) T:=
 NY (lh P s) (λ_c _ h e=>h.next b.pos e) (λ_c h=>⟨h.1.inv,h.2⟩) (λ_c h=>QQ b h.1.inv h.1.rM d.v1 (λk b=>(h.1.at' k b).cu d) a.p a.le a.z) h
theorem ho.Dx{s:Nat->Nat}{S E V:Nat}(b:lp P s S E)(a:we P V)(h:ho P s T){x:Nat}(c:x<P.n+P.m):cu (jO P.n ((P.n*E)^P.n) S V+V) (T.v x):=
 C.Dx b h.inv h.rM a.v1 (λk b=>(h.at' k b).cu a) c
end
def h4:List dq->Nat->Rat
 | [],_=>0
 | c::l,j=>h4 l j+if j=c.af.toNat then rd c.v else 0
theorem K5{n:Int}:∀{l:List dq} {last:Int} {f:Nat->Rat},-1<=last->hH n last l=true->(∀j:Nat,last<(j:Int)->f j=0)->∀j,l.foldl hX f j=f j+h4 l j
 | [],_,f,_,_,_,j=>by simp[h4,na]
 | c::l,last,f,_,h,a,j=>by
   simp only[hH,b3,df]at h;obtain⟨_,_,_,_,b⟩:=h;have d:(c.af.toNat:Int)=c.af:=by omega
   have d:f c.af.toNat=0:=a _ (by omega);rw[sy,K5 (last:=c.af) (by omega) b λk _=>?_]
   ·show(if j=c.af.toNat then rd c.v else f j)+h4 l j=f j+(h4 l j+if j=c.af.toNat then rd c.v else 0);grind
   ·show(if k=c.af.toNat then rd c.v else f k)=0;grind
theorem So{n:Int}{l:List dq}(h:hH n (-1) l=true)(j:Nat):hV l j=h4 l j:=by
 rw[hV,K5 (Int.le_refl _) h λ_ _=>rfl,Rat.zero_add]
theorem C3:∀{l:List dq} {f:Nat->Rat} (j:Nat),l.foldl hX f j=f j∨∃c∈l,l.foldl hX f j=rd c.v
 | [],f,j=>.inl rfl
 | c::l,f,j=>by
   rw[sy]
   rcases C3 (l:=l) (f:=hX f c) j with h | ⟨_,_,h⟩
   ·rw[h];unfold hX;split
    ·exact .inr ⟨c,.head _,rfl⟩
    ·exact .inl rfl
   grind
theorem Hf{n:Nat}{x:Nat->Rat}:∀{l:List dq},(∀c∈l,0<=c.af/\c.af<n)->hI l x=a1 (λj=>h4 l j*x j) n
 | [],_=>(pQ λ_ _=>by simp[h4,Rat.zero_mul]).symm
 | c::l,h=>by
   obtain⟨_,_⟩:=h c (.head _);have e:a1 (λj=>h4 (c::l) j*x j) n=a1 (λj=>h4 l j*x j+(if j=c.af.toNat then rd c.v else 0)*x j) n:=ew λj _=>by
    show(h4 l j+_)*x j=_;grind
   have a:a1 (λj=>(if j=c.af.toNat then rd c.v else 0)*x j) n=rd c.v*x c.af.toNat:=by
    rw[oE (j:=c.af.toNat) (by omega) λ_ _ _=>by grind,aT rfl]
   rw[e,oD,hI,Hf λd b=>h d (.tail _ b),a]
theorem Ky{y:Rat}:∀{l:List dq} {d:Nat->Rat} (j:Nat),sO l y d j=d j-y*h4 l j
 | [],d,j=>by simp[sO,h4];grind
 | c::l,d,j=>by
   have:sO (c::l) y d j=sO l y (KE y d c) j:=rfl;rw[this,Ky];show(if j=c.af.toNat then d j-rd c.v*y else d j)-y*h4 l j=d j-y*(h4 l j+if j=c.af.toNat then rd c.v else 0);split<;>grind
section
variable{ab:aI}
theorem Kw{r:bQ}{n:Nat}(h:kq r n=true):hH n (-1) r.j=true/\∀c∈r.j,0<=c.af/\c.af<n:=by
 simp only[kq,b3]at h;refine⟨h.1,λc a=>?_⟩;obtain⟨_,_,_⟩:=(zV h.1).1 c a;grind
theorem IZ(a:ab.I=true){i:Nat}(aJ:i<ab.rows.length):kq (ab.row i) ab.a.length=true:=BK a (eB (aI.rowAt aJ))
theorem Qw(a:ab.I=true){i:Nat}(aJ:i<ab.a.length):h6 (ab.af i)=true:=xy a (eB (aI.jv aJ))
theorem Fv(a:ab.I=true){i:Nat}(aJ:i<ab.rows.length)(j:Nat):ab.q.A i j=h4 (ab.row i).j j:=So (Kw (IZ a aJ)).1 j
theorem N5(a:ab.I=true){i:Nat}(aJ:i<ab.rows.length)(x:Nat->Rat):hI (ab.row i).j x=a1 (λj=>ab.q.A i j*x j) ab.a.length:=by
 rw[Hf (Kw (IZ a aJ)).2];exact ew λj _=>by rw[Fv a aJ]
theorem G8(b:ab.I=true){a:Bool}{y:Nat->Rat}:∀{k:Nat},k<=ab.rows.length->∀j,tZ ab a y k j=d0 ab a j-a1 (λi=>y i*ab.q.A i j) k
 | 0,_,j=>by
   show d0 ab a j=_;simp only[a1];grind
 | k+1,_,j=>by
   show sO (ab.row k).j (y k) (tZ ab a y k) j=_;rw[Ky,G8 b (by omega),a1,Fv b (by omega)];grind
theorem Tj:dx ab.q ab.L where
 r:=λi a=>by show ab.a.length+i<ab.a.length+ab.rows.length;exact Nat.add_lt_add_left a _
 c:=λk a=>by show k<ab.a.length+ab.rows.length;exact eC a (e9 _ _)
 k6:=λi j _ _ e=>by have e:ab.a.length+i=ab.a.length+j:=e;omega
 ci:=λi j _ _ e=>e
 rc:=λi k _ a e=>by have e:ab.a.length+i=k:=e;have a:k<ab.a.length:=a;omega
 iR:=λx a=>by
  have a:x<ab.a.length+ab.rows.length:=a;by_cases h:x<ab.a.length
  ·exact .inr ⟨x,h,rfl⟩
  ·exact .inl ⟨x-ab.a.length,by show x-ab.a.length<ab.rows.length;omega,by show ab.a.length+(x-ab.a.length)=x;omega⟩
theorem Ti(a:ab.I=true):Inv ab.q ab.L where
 y:=Tj
 dD:=λ_=>Iff.rfl
 val:=λi b=>by
  show ab.L.v (ab.a.length+i)=_;rw[Lu,N5 a b];exact ew λj a=>by rw[show ab.L.v j=ab.v0 j from aT a]
 sum:=λ_=>rfl
theorem Dt{l:List UInt8}{q:Rat}(h:fc l=some q):l≠[]/\q=rd l:=by
 unfold fc at h;grind
theorem Ci(c:ab.I=true):tn ab.q:=by
 intro x _ _ a b;by_cases h:x<ab.a.length
 ·rw[Ch h]at a;rw[Cj h]at b;obtain⟨_,rfl⟩:=Dt a;obtain⟨_,rfl⟩:=Dt b;have:=Qw c h;simp only[h6,b3,ir,df]at this;grind
 ·obtain⟨i,rfl⟩:∃i,x=ab.a.length+i:=⟨x-ab.a.length,by omega⟩;rw[J5]at a;rw[J6]at b;grind
end
theorem vd{l:List UInt8}{k:Nat}(h:l.length<=k):cu (10^k) (rd l):=by
 have d:1<=10^k:=sA _ _ (by decide);unfold rd
 cases e:gH l with
 | none=>exact wu d
 | some _=>
   unfold gH lD at e;split at e
   ·rename_i f;obtain⟨a,g,b,_⟩:=f;simp only[ax]at e;have c:∀{l:List UInt8},gm l=true->c' l<10^l.length:=λ{l} h=>by
     unfold gm at h;simp at h;exact wT (by grind)
    have h:=@G6 (gn l).2;have i:=@Jf l;have j:=c a;have m:=c g;by_cases n:k=0
    ·have:l.length=0:=by omega
     obtain rfl:l=[]:=List.length_eq_zero_iff.1 this;simp[gn,iT,gm]at a
    ·have o:10^(iT (gn l).2).1.length<=10^k:=fX (by decide) (by omega);have p:10^(iT (gn l).2).2.length<=10^k:=fX (by decide) (by omega);rw[<-e];simp only[jf];exact⟨by rw[BN b];exact aY (kk _ _) (by omega),by rw[BM b];exact aY (kk _ _) (by omega)⟩
   ·cases e
structure d'(ab:aI):Prop where
 n:ab.a.length<=6
 m:ab.rows.length<=12
 c:∀c∈ab.a,c.low.length<=30/\c.up.length<=30/\c.cost.length<=30
 r:∀r∈ab.rows,r.rhs.length<=30/\r.j.length<=1000000/\∀c∈r.j,c.v.length<=30
section
variable{ab:aI}
theorem d'.ok(h:d' ab):ab.ok:=by
 refine⟨by have:=h.n;omega,by have:=h.m;omega,λc a=>?_,λr b=>?_⟩
 ·obtain⟨_,_,_⟩:=h.c c a;exact⟨by omega,by omega,by omega⟩
 ·obtain⟨_,d,e⟩:=h.r r b;exact⟨by omega,d,λc a=>by have:=e c a;show c.v.length<=10000;omega⟩
abbrev eX:Nat:=10^30
theorem yI{l:List UInt8}(h:l.length<=30){q:Rat}(e:fc l=some q):cu eX q:=by
 obtain⟨_,rfl⟩:=Dt e;exact vd h
theorem vi(h:d' ab)(i:Nat):(ab.row i).rhs.length<=30/\∀c∈(ab.row i).j,c.v.length<=30:=by
 by_cases a:i<ab.rows.length
 ·obtain⟨_,_,_⟩:=h.r _ (eB (aI.rowAt a));grind
 ·have:ab.row i=⟨[],1,[],[],[]⟩:=by rw[aI.row,il,gr (by omega)];rfl
  grind
theorem o8(h:d' ab)(i:Nat):(ab.af i).low.length<=30/\(ab.af i).up.length<=30/\(ab.af i).cost.length<=30:=by
 by_cases a:i<ab.a.length
 ·exact h.c _ (eB (aI.jv a))
 ·have:ab.af i=⟨[],[],[],[],false⟩:=by rw[aI.af,il,gr (by omega)];rfl
  grind
theorem d'.xU(h:d' ab):we ab.q eX:=by
 refine⟨by decide,λx l e=>?_,λx u e=>?_⟩
 ·have e:(if x<ab.a.length then fc (ab.af x).low else if(ab.row (x-ab.a.length)).kind=1 then none else fc (ab.row (x-ab.a.length)).rhs)=some l:=e;split at e
  ·exact yI (o8 h x).1 e
  ·split at e
   ·cases e
   ·exact yI (vi h _).1 e
 ·have e:(if x<ab.a.length then fc (ab.af x).up else if(ab.row (x-ab.a.length)).kind=3 then none else fc (ab.row (x-ab.a.length)).rhs)=some u:=e;split at e
  ·exact yI (o8 h x).2.1 e
  ·split at e
   ·cases e
   ·exact yI (vi h _).1 e
theorem d'.zu(h:d' ab)(i j:Nat):cu eX (ab.q.A i j):=by
 rcases C3 (l:=(ab.row i).j) (f:=λ_=>0) j with e | ⟨c,a,e⟩
 ·show cu eX (hV _ j);rw[hV,e];exact wu (by decide)
 ·show cu eX (hV _ j);rw[hV,e];exact vd ((vi h i).2 c a)
def eU(ab:aI)(x:Nat):Nat:=if x<ab.a.length then 1 else lQ (λj=>(ab.q.A (x-ab.a.length) j).den) ab.a.length
def o3(n:Nat):Nat:=eX^n
def jL(n:Nat):Nat:=eX*eX^n
theorem d'.eU(h:d' ab):lp ab.q (eU ab) (o3 ab.a.length) (jL ab.a.length):=by
 have b:1<=eX^ab.a.length:=sA _ _ (by decide);refine⟨λx=>?_,λx=>?_,λx c=>aT c,λx j c d=>?_⟩
 ·unfold C.eU;split
  ·grind
  ·exact xX (λ_=>Rat.den_pos _) _
 ·unfold C.eU;split
  ·exact b
  ·exact su λj _=>(h.zu _ j).2
 ·by_cases a:x<ab.a.length
  ·have c:C.eU ab x=1:=aT a;have e:form ab.q x j=if x=j then 1 else 0:=aT a
   have f:1<=jL ab.a.length:=pC (by decide) b;rw[c,e];split
   ·exact⟨1,by simp,f⟩
   ·exact⟨0,by simp,Nat.zero_le _⟩
  ·have b:C.eU ab x=lQ (λj=>(ab.q.A (x-ab.a.length) j).den) ab.a.length:=aC a;have c:form ab.q x j=ab.q.A (x-ab.a.length) j:=aC a;rw[b,c,sx];exact wW (h.zu _ j) (uS (f:=λj=>(ab.q.A (x-ab.a.length) j).den) d) (su λj _=>(h.zu _ j).2)
theorem d'.Nq(h:d' ab):FA ab.q ab.cs (o3 ab.a.length) (jL ab.a.length) (lQ (λj=>(ab.cs j).den) ab.a.length):=by
 refine⟨xX (λ_=>Rat.den_pos _) _,su λj _=>(vd (o8 h j).2.2).2,λj a=>?_⟩;rw[sx];exact wW (vd (o8 h j).2.2) (uS (f:=λj=>(ab.cs j).den) a) (su λj _=>(vd (o8 h j).2.2).2)
theorem FJ{n:Nat}:∀(d k:Nat) (w:Nat->Rat),k+d<=n->(∀j,k<=j->w j=1)->dJ n ((List.range' k d).map λi j=>if i=j then(1:Rat) else 0) w=1
 | 0,_,_,_,_=>rfl
 | d+1,k,w,_,a=>by
   rw[List.range'_succ,u0,dJ,oE (j:=k) (by omega) λi _ _=>by grind,aT rfl,a k (bg _),FJ d (k+1) _ (by omega) λj _=>?_]
   ·grind
   ·rw[a j (by omega),gM,aT (by omega)];grind
theorem Mb(_:d' ab):ff ab.q (eU ab) ab.L≠0:=by
 have e:ff ab.q (eU ab) ab.L=1:=by
  rw[ff,List.range_eq_range'];refine(y7 (te:=(List.range' 0 ab.q.n).map λi j=>if i=j then(1:Rat) else 0) _ (by simp) λi _ _ e b j _=>?_).trans (FJ (n:=ab.q.n) ab.q.n 0 (λ_=>1) (by omega) λ_ _=>rfl);simp only[iw,sG]at e b;obtain⟨a,c,rfl⟩:=e;obtain⟨_,d,rfl⟩:=b;rw[c]at d;cases d;have d:=eB c;have b:a<ab.a.length:=by
   have:=List.mem_range'_1.1 d;have c:a<0+ab.q.n:=this.2;have c:ab.q.n=ab.a.length:=rfl;omega
  show((C.eU ab a:Nat):Rat)*form ab.q a j=if a=j then 1 else 0
  rw[show C.eU ab a=1 from aT b,show form ab.q a j=if a=j then 1 else 0 from aT b];have a:((1:Nat):Rat)=1:=rfl;rw[a,Rat.one_mul]
 rw[e];decide
theorem Th(h:d' ab)(b:ab.I=true):mo ab.q (eU ab) ab.L:=by
 have c:∀k,k<ab.a.length->ab.L.v k=pN (ab.q.ah k) (ab.q.up k):=λk a=>by rw[Lt a,Ch a,Cj a]
 refine⟨⟨Ti b,Mb h,λk a=>?_⟩,λk a=>?_⟩
 ·have a:k<ab.a.length:=a;show hn ab.q ab.L.v k;unfold hn;rw[c k a];unfold pN
  cases e:ab.q.ah k with
  | some _=>grind
  | none=>
    cases d:ab.q.up k with
    | some _=>grind
    | none=>exact .inl rfl
 ·have a:k<ab.a.length:=a;show js ab.q ab.L.v k;unfold js;rw[c k a];unfold pN;refine⟨λl e=>?_,λu e=>?_⟩
  ·grind
  ·cases a:ab.q.ah k with
   | none=>grind
   | some l=>exact Ci b k l u a e
end
end Go.Dam.C
namespace Go.Dam.C
open Go Go.Dam
theorem As(n:Nat):(Lib.decDigits n).all e3=true:=by
 induction n using Nat.strongRecOn with
 | _ n ih=>
   by_cases h:n<10
   ·rw[Lib.decDigits_one h];have a:(UInt8.ofNat (48+n)).toNat=48+n:=by simp;omega
    simp[e3, ];omega
   ·rw[Lib.decDigits,dif_neg h,List.all_append,ih (n/10) (by omega)];have a:(UInt8.ofNat (48+n%10)).toNat=48+n%10:=by simp;omega
    simp[e3, ];omega
theorem NV(n:Nat):∀c,(Lib.decDigits n).head? = some c->e3 c=true/\(1<=n->c≠48):=by
 induction n using Nat.strongRecOn with
 | _ n ih=>
   intro c a;refine⟨?_,λ_=>?_⟩
   ·have:=As n
    cases b:Lib.decDigits n with
    | nil=>grind
    | cons _ _=>
      grind
   ·by_cases h:n<10
    ·rw[Lib.decDigits_one h]at a;simp at a;rintro rfl;have:=congrArg UInt8.toNat a;simp at this;omega
    ·rw[Lib.decDigits,dif_neg h]at a;have a:=wU (n/10)
     cases b:Lib.decDigits (n/10) with
     | nil=>grind
     | cons _ _=>
       grind
theorem At(n:Nat):∀c∈Lib.decDigits n,c≠47/\c≠45:=by
 intro c a;have:=As n;rw[eD]at this;have:=this c a;constructor<;>rintro rfl<;>exact absurd this (by decide)
theorem QH(q:Rat):gn (cZ q)=(decide (q<0),Lib.decDigits q.num.natAbs++if q.den=1 then[] else 47::Lib.decDigits q.den):=by
 unfold gn cZ;by_cases h:q<0
 ·simp[h]
 ·have a:=wU q.num.natAbs
  cases b:Lib.decDigits q.num.natAbs with
  | nil=>grind
  | cons a _=>
    have:=(At q.num.natAbs a (by grind)).2;simp[h,this]
theorem NK(q:Rat):iT (Lib.decDigits q.num.natAbs++if q.den=1 then[] else 47::Lib.decDigits q.den)=(Lib.decDigits q.num.natAbs,Lib.decDigits q.den):=by
 have a:47∉Lib.decDigits q.num.natAbs:=λh=>(At _ _ h).1 rfl;have b:∀c∈Lib.decDigits q.num.natAbs,(c != 47)=true:=λc b=>by simpa using(At _ c b).1
 unfold iT;by_cases h:q.den=1
 ·rw[h];simp[a,Lib.decDigits_one]
 simp_all
@[irreducible] def dj(k:Nat):Nat:=10^k
theorem gv(k:Nat):dj k=10^k:=by delta dj;rfl
theorem vu{a b:Nat}(h:a<=b):dj a<=dj b:=by rw[gv,gv];exact fX (by decide) h
theorem Dq{a b:Nat}(h:a<b):dj a<dj b:=by rw[gv,gv];exact Nat.pow_lt_pow_right (by decide) h
theorem Tn(a:Nat):1<=dj a:=by rw[gv];grind
theorem Dr{a b c:Nat}(h:a+b=c):dj a*dj b=dj c:=by rw[<-h,gv,gv,gv,fH]
theorem To(a b:Nat):dj a^b=dj (a*b):=by rw[gv,gv];exact(mY 10 a b).symm
theorem HS{n:Nat}(h:n<dj 2000):gm (Lib.decDigits n)=true:=by
 have d:(Lib.decDigits n).length<=2000:=by
  rw[Lib.decDigits_length];exact uB (by rw[gv]at h;exact h) (by decide)
 unfold gm;have d:=wU n;have c:(Nat.blt 1 (Lib.decDigits n).length&&(Lib.decDigits n).head? ==some 48)=false:=by
  cases a:(Lib.decDigits n).head? ==some 48 with
  | false=>simp
  | true=>
    have a:(Lib.decDigits n).head? = some 48:=by simpa using a
    have b:n=0:=by
     apply lW;intro b;exact(NV n 48 a).2 (by omega) rfl
    subst b;rw[Lib.decDigits_one (by decide)];rfl
 simp only[As,c,Bool.and_true,Bool.not_false,b3];simp_all
theorem OI{q:Rat}(a:q.num.natAbs<dj 2000)(b:q.den<dj 2000):gH (cZ q)=some q:=by
 unfold gH lD;rw[QH,NK];simp only[Ar,I8];rw[aT ⟨HS a,HS b,q.den_nz,trivial⟩]
def la:Nat:=dj 1900
theorem cu.get{q:Rat}(h:cu la q):gH (cZ q)=some q:=by
 have a:la<dj 2000:=Dq (by decide);exact OI (cV h.1 a) (cV h.2 a)
theorem cu.rd{q:Rat}(h:cu la q):rd (cZ q)=q:=by unfold C.rd;rw[h.get];rfl
theorem cu.isNum{q:Rat}(h:cu la q):isNum (cZ q)=true:=by unfold C.isNum;rw[h.get];rfl
theorem cu.aS{q:Rat}(h:cu la q):aS q 2000:=by
 have a:la<4294967296^2000:=eC (Dq (show 1900<2000 by decide)) (by rw[gv];exact Kg 2000);exact⟨cV h.1 a,cV h.2 a⟩
theorem cu.len{q:Rat}(h:cu la q):(cZ q).length<=10000:=by
 have a:la<dj 2000:=Dq (by decide);have b:(Lib.decDigits q.num.natAbs).length<=2000:=by rw[Lib.decDigits_length];exact uB (by rw[gv]at a;exact cV h.1 a) (by decide)
 have b:(Lib.decDigits q.den).length<=2000:=by rw[Lib.decDigits_length];exact uB (by rw[gv]at a;exact cV h.2 a) (by decide)
 unfold cZ;grind
end Go.Dam.C
namespace Go.Dam.C
theorem xW(a b:Nat):(10^a)^b=10^(a*b):=(mY 10 a b).symm
theorem Mk{n:Nat}(a:n<=6):(n*jL n)^n<=dj 1266:=by
 have a:jL n<=10^210:=by
  unfold jL;rw[show eX*eX^n=eX^(n+1) by rw[dH,dW],xW];exact fX (by decide) (by omega)
 have b:n*jL n<=10^211:=by
  have:n*jL n<=10*10^210:=gK (by omega) a;rwa [<-Nat.pow_succ']at this
 calc (n*jL n)^n<=(10^211)^n:=x9 b n
  _=dj (211*n):=by rw[xW,gv]
  _<=dj 1266:=vu (by omega)
theorem MH{n:Nat}(a:n<=6):o3 n<=dj 180:=by
 unfold o3;rw[xW,gv];exact fX (by decide) (by omega)
theorem FY{n:Nat}(a:n<=6):(n*jL n)^n*o3 n<=dj 1446:=by
 have:=gK (Mk a) (MH a);rw[Dr (show 1266+180=1446 by decide)]at this;exact this
theorem MJ{n:Nat}(a:n<=6):jO n ((n*jL n)^n) (o3 n) eX+eX<=dj 1660:=by
 unfold jO;have b:eX*eX^n<=dj 210:=by
  rw[show eX*eX^n=eX^(n+1) by rw[dH,dW],xW,gv];exact fX (by decide) (by omega)
 have c:(n*jL n)^n*o3 n*(eX*eX^n)<=dj 1656:=by
  have:=gK (FY a) b;rw[Dr (show 1446+210=1656 by decide)]at this;exact this
 have b:n*((n*jL n)^n*o3 n*(eX*eX^n))<=6*dj 1656:=gK a c;have a:eX<=dj 1656:=by rw[show eX=dj 30 from(gv 30).symm];exact vu (by decide)
 have a:dj 1660=10000*dj 1656:=by rw[<-Dr (show 4+1656=1660 by decide),gv 4]
 grind
theorem cu.mono{a b:Nat}{q:Rat}(h:cu a q)(c:a<=b):cu b q:=⟨aY h.1 c,aY h.2 c⟩
section
variable{ab:aI}{T:bd}
theorem ho.Gt(h:d' ab)(a:ho ab.q (eU ab) T){x:Nat}(b:x<ab.a.length+ab.rows.length):cu (dj 1660) (T.v x):=
 (a.Dx h.eU h.xU b).mono (MJ h.n)
theorem ho.Gs(h:d' ab)(a:ho ab.q (eU ab) T){i k:Nat}(aJ:i<ab.rows.length)(b:k<ab.a.length):cu (dj 1446) (T.M i k):=
 (Mz h.eU a.inv a.rM aJ b).mono (FY h.n)
theorem vN{k:Nat}{q:Rat}(h:cu (dj k) q)(a:k<=1900):cu la q:=h.mono (vu a)
theorem FK{q:Rat}(h:cu eX q):cu la q:=h.mono (by rw[show eX=dj 30 from(gv 30).symm];exact vu (by decide))
theorem ho.Lk(h:d' ab)(a:ho ab.q (eU ab) T):gQ ab.q T 2000 where
 v:=λx b=>⟨λl e=>(FK (h.xU.ah x l e)).aS,λl e=>(FK (h.xU.up x l e)).aS,(vN (a.Gt h b) (by decide)).aS⟩
 M:=λ_ _ b c=>(vN (a.Gs h b c) (by decide)).aS
theorem ho.strs(h:d' ab)(b:ho ab.q (eU ab) T):o4 (kW ab T):=by
 refine⟨?_,λ_ c=>?_⟩
 ·have:=h.n;simp only[kW,pG,x1];show ab.a.length<_;omega
 ·obtain⟨j,a,rfl⟩:=k1.1 c;have a:j<ab.a.length:=List.mem_range.1 a;exact(vN (b.Gt h (by omega)) (by decide)).len
theorem runs(h:d' ab)(b:ab.I=true):tm ab (mo ab.q (eU ab)) (lh ab.q (eU ab)) 2000 where
 t1:=by decide
 s7:=by decide
 s1:=Th h b
 g1:=λT a=>⟨a.1.inv,a.1.Lk h,Ot (Ci b) a.1.inv a.2⟩
 cf:=λT c a e=>a.next h.eU.pos (Ci b) e
 s2:=λT a e=>a.two e
 g2:=λT a=>⟨a.1.inv,a.1.Lk h,a.ends h.eU h.xU h.Nq⟩
 fR:=λT c a e=>a.next h.eU.pos e
 yL:=λT a=>a.1.strs h
end
section
variable{ab:aI}
def KA(a:Int)(s b:Rat):Prop:=(a=1->s<=b)/\(a=3->b<=s)/\(a≠1->a≠3->s=b)
def q6(ab:aI)(x:Nat->Rat)(i:Nat):Rat:=a1 (λj=>ab.q.A i j*x j) ab.a.length
structure zb(ab:aI)(x:Nat->Rat):Prop where
 c:∀j,j<ab.a.length->((ab.af j).low≠[]->rd (ab.af j).low<=x j)/\((ab.af j).up≠[]->x j<=rd (ab.af j).up)
 r:∀i,i<ab.rows.length->KA (ab.row i).kind (q6 ab x i) (rd (ab.row i).rhs)
structure FW(ab:aI)(d:Nat->Rat)(s q:Rat)(k:Nat):Prop where
 ok:∀j,j<k->d j≠0->(if d j<0 then(ab.af j).up else(ab.af j).low)≠[]
 sum:q=s+a1 (λj=>d j*rd (if d j<0 then(ab.af j).up else(ab.af j).low)) k
theorem xu{d:Nat->Rat}{s:Rat}:∀{k:Nat} {q:Rat},qx ab d s k=some q↔FW ab d s q k
 | 0,q=>by
   simp only[qx,ax];constructor
   ·rintro rfl;exact⟨λ_ a=>absurd a (hz _),by simp[a1,na]⟩
   ·rintro⟨_,h⟩;rw[h];simp[a1,na]
 | k+1,q=>by
   rw[qx];have a:∀(h:¬(d k≠0/\(if d k<0 then(ab.af k).up else(ab.af k).low).isEmpty=true)),BF (ab.af k) (d k)=some (d k*rd (if d k<0 then(ab.af k).up else(ab.af k).low)):=λh=>aC h;constructor
   ·intro h
    cases e:qx ab d s k with
    | none=>grind
    | some _=>
      rw[e]at h;simp only at h;obtain⟨_,c⟩:=xu.1 e;by_cases b:d k≠0/\(if d k<0 then(ab.af k).up else(ab.af k).low).isEmpty=true
      ·rw[show BF (ab.af k) (d k)=none from aT b]at h;cases h
      ·rw[a b]at h;simp only[ax]at h;refine⟨λ_ _ _=>?_,?_⟩
       ·grind
       ·rw[a1,<-h,c];grind
   ·rintro⟨b,c⟩;have e:qx ab d s k=some (s+a1 (λj=>d j*rd (if d j<0 then(ab.af j).up else(ab.af j).low)) k):=xu.2 ⟨λj _=>b j (by omega),rfl⟩;rw[e];simp only;have e:¬(d k≠0/\(if d k<0 then(ab.af k).up else(ab.af k).low).isEmpty=true):=by
     rintro⟨d,f⟩;exact b k (by omega) d (by simpa using f)
    rw[a e];simp only[ax];rw[c,a1];grind
def ub(ab:aI)(a:Bool)(y:Nat->Rat)(j:Nat):Rat:=d0 ab a j-a1 (λi=>y i*ab.q.A i j) ab.rows.length
structure Fz(ab:aI)(TQ:Bool)(y:Nat->Rat)(b:Rat):Prop where
 gM:∀i,i<ab.rows.length->((ab.row i).kind=1->y i<=0)/\((ab.row i).kind=3->0<=y i)
 ls:FW ab (ub ab TQ y) (a1 (λi=>y i*rd (ab.row i).rhs) ab.rows.length) b ab.a.length
theorem K9{y:Nat->Rat}{i:Nat}:yx ab y i=true↔((ab.row i).kind=1->y i<=0)/\((ab.row i).kind=3->0<=y i):=by
 unfold yx;grind
theorem Nd(c:ab.I=true){a:Bool}{y:Nat->Rat}{b:Rat}:zL ab a y=some b↔Fz ab a y b:=by
 have e:tZ ab a y ab.rows.length=ub ab a y:=by
  funext j;exact G8 c (bg _) j
 unfold zL;rw[e];constructor
 ·intro h;split at h
  ·rename_i d;exact⟨λi b=>K9.1 (Dd.1 d i b),xu.1 h⟩
  ·cases h
 ·rintro⟨b,f⟩;rw[aT (Dd.2 λi g=>K9.2 (b i g))];exact xu.2 f
structure zi(ab:aI)(x:Nat->Rat):Prop where
 c:∀j,j<ab.a.length->((ab.af j).low≠[]->0<=x j)/\((ab.af j).up≠[]->x j<=0)
 r:∀i,i<ab.rows.length->KA (ab.row i).kind (q6 ab x i) 0
 n:ab.rE x<0
end
section
variable{ab:aI}
theorem Nc(d:ab.I=true){a:List (List UInt8)}{c:Bool}{b:Rat}(h:rB ab a c=some b):Fz ab c (fY a) b:=by
 unfold rB at h;split at h
 ·exact(Nd d).1 h
 ·cases h
end
section
variable{ab:aI}{T:bd}{P:bu}
def ind(a b:Nat):Rat:=if a=b then 1 else 0
def nG(P:bu)(T:bd)(e:Nat->Rat)(x:Nat):Rat:=a1 (λk=>e k*ind (T.a k) x) P.n
theorem MM(h:dx P T)(e:Nat->Rat){k:Nat}(a:k<P.n):nG P T e (T.a k)=e k:=by
 rw[nG,oE (j:=k) a λi b c=>by rw[ind,aC λe=>c (h.ci i k b a e),ow],ind,aT rfl,Rat.mul_one]
theorem Gh{e:Nat->Rat}{x:Nat}(a:∀k,k<P.n->T.a k≠x):nG P T e x=0:=pQ λk b=>by rw[ind,aC (a k b),ow]
theorem Gi(h:dx P T)(e:Nat->Rat)(x:Nat):(∃k,k<P.n/\T.a k=x/\nG P T e x=e k)∨((∀k,k<P.n->T.a k≠x)/\nG P T e x=0):=by
 by_cases a:∃k,k<P.n/\T.a k=x
 ·obtain⟨k,b,rfl⟩:=a;exact .inl ⟨k,b,rfl,MM h e b⟩
 ·exact .inr ⟨λk b e=>a ⟨k,b,e⟩,Gh λk b e=>a ⟨k,b,e⟩⟩
def want(P:bu)(w:Rat)(x:Nat):Option Rat:=if w<0 then P.up x else P.ah x
end
section
variable{ab:aI}{T:bd}{P:bu}
def pU(P:bu)(T:bd)(a x:Nat):Rat:=(off P T.v (T.rows a):Rat)*ind (T.rows a) x+nG P T (l4 P T a) x
theorem LJ{a:Nat}(h:dx P T)(b:a<P.m):pU P T a (T.rows a)=(off P T.v (T.rows a):Rat):=by
 rw[pU,Gh λk c e=>h.rc a k b c e.symm,ind,aT rfl,Rat.mul_one,na]
theorem LI{a x:Nat}(b:x≠T.rows a):pU P T a x=nG P T (l4 P T a) x:=by
 rw[pU,ind,aC (Ne.symm b),ow,Rat.zero_add]
end
section
variable{ab:aI}{T:bd}{P:bu}
theorem R0:cZ 0=[48]:=by
 have:Lib.decDigits 0=[48]:=by rw[Lib.decDigits_one (by decide)];rfl
 simp[cZ,this]
theorem R1:cZ 1=[49]:=by
 have:Lib.decDigits 1=[49]:=by rw[Lib.decDigits_one (by decide)];rfl
 have h:¬(1:Rat)<0:=by decide
 simp[cZ,this,h]
theorem R3:cZ (-1)=[45,49]:=by
 have:Lib.decDigits 1=[49]:=by rw[Lib.decDigits_one (by decide)];rfl
 have h:(-1:Rat)<0:=by decide
 have a:(-1:Rat).num.natAbs=1:=by decide
 have a:(-1:Rat).den=1:=by decide
 simp[cZ,this,h, a]
theorem Hi{d:Nat->Rat}{i:Nat}:∀{K:Nat},(∀k,k<K->T.a k≠P.n+i)->kF P T d K i=[48]
 | 0,_=>rfl
 | K+1,h=>by rw[kF,aC (h K (by omega)),Hi λk _=>h k (by omega)]
theorem Hh(a:dx P T){d:Nat->Rat}{i k:Nat}:∀{K:Nat},K<=P.n->k<K->T.a k=P.n+i->kF P T d K i=cZ (d k)
 | K+1,_,_,e=>by
   rw[kF];by_cases h:k=K
   ·grind
   ·rw[aC λb=>h (a.ci k K (by omega) (by omega) (e.trans b.symm)),Hh a (by omega) (by omega) e]
theorem N'(a:dx P T)(d:Nat->Rat)(i:Nat):kF P T d P.n i=cZ (nG P T d (P.n+i)):=by
 rcases Gi a d (P.n+i) with⟨k,kN,e4,cq⟩ | ⟨h,e⟩
 ·rw[cq,Hh a (bg _) kN e4]
 ·rw[e,Hi h,R0]
theorem SN(b:dx P T){a:Nat}(c:a<P.m)(d:off P T.v (T.rows a)≠0)(i:Nat):k8 P T a i=cZ (pU P T a (P.n+i)):=by
 unfold k8;by_cases h:T.rows a=P.n+i
 ·rw[aT h,<-h,LJ b c]
  rcases xH d with e | e<;>rw[e]
  ·rw[aT (by decide)];exact R1.symm
  ·rw[aC (by decide)];exact R3.symm
 ·rw[aC h,LI (Ne.symm h),N' b]
theorem R8{m:Nat}{f:Nat->Rat}{i:Nat}(aJ:i<m)(h:cu la (f i)):fY ((List.range m).map λi=>cZ (f i)) i=f i:=by
 unfold fY;rw[il,iw,pF aJ];exact h.rd
theorem zb.congr{x b:Nat->Rat}(h:zb ab x)(e:∀j,j<ab.a.length->b j=x j):zb ab b:=
 ⟨λj a=>by rw[e j a];exact h.c j a,λi c=>by
  rw[show q6 ab b i=q6 ab x i from ew λj a=>by rw[e j a]];exact h.r i c⟩
theorem NH{x a:Nat->Rat}(e:∀j,j<ab.a.length->a j=x j):ab.rE a=ab.rE x:=ew λj a=>by rw[e j a]
theorem zi.congr{x b:Nat->Rat}(h:zi ab x)(e:∀j,j<ab.a.length->b j=x j):zi ab b:=
 ⟨λj a=>by rw[e j a];exact h.c j a,λi c=>by
  rw[show q6 ab b i=q6 ab x i from ew λj a=>by rw[e j a]];exact h.r i c,by rw[NH e];exact h.n⟩
theorem Gv{B:Nat}{q:Rat}(h:cu B q):cu B (-q):=by
 unfold cu at*
 simp_all
theorem Gw{B:Nat}(h:1<=B):cu B 1:=⟨h,h⟩
theorem M1{B:Nat}(a:1<=B){w:Int}(h:w=1∨w=-1):cu B (w:Rat):=by
 rcases h with rfl | rfl
 ·exact Gw a
 ·exact Gv (Gw a)
theorem MN(a:dx P T){e:Nat->Rat}{B:Nat}(b:1<=B)(h:∀k,k<P.n->cu B (e k))(x:Nat):cu B (nG P T e x):=by
 rcases Gi a e x with⟨k,kN,_,cq⟩ | ⟨_,cq⟩
 ·grind
 ·rw[cq];exact wu b
end
section
variable{ab:aI}{T:bd}
theorem SM{P:bu}{B a k:Nat}(h:cu B (T.M a k)):cu B (l4 P T a k):=by
 unfold l4;split
 ·exact Gv h
 ·exact h
theorem TN{P:bu}(b:dx P T){B a:Nat}(c:1<=B)(d:a<P.m)(f:off P T.v (T.rows a)≠0)(h:∀k,k<P.n->cu B (T.M a k))(x:Nat):cu B (pU P T a x):=by
 by_cases e:x=T.rows a
 ·rw[e,LJ b d];exact M1 c (xH f)
 ·rw[LI e];exact MN b c (λk a=>SM (h k a)) x
end
section
variable{ab:aI}
theorem R2{q:Rat}{k:Nat}(h:aS q k)(a:1<=k):(cZ q).length<=20*k+2:=by
 have b:=uc h.1 a;have b:=uc h.2 a;unfold cZ;grind
theorem LQ(h:d' ab)(i j:Nat):aS (ab.q.A i j) 30:=by
 rcases C3 (l:=(ab.row i).j) (f:=λ_=>0) j with e | ⟨c,a,e⟩
 ·show aS (hV _ j) _;rw[hV,e];exact pR (by decide)
 ·show aS (hV _ j) _;rw[hV,e];exact jg ((vi h i).2 c a) (by decide)
theorem Nf(h:d' ab)(f:ab.I=true){b:Bool}{a:List (List UInt8)}(c:∀i,aS (fY a i) 400):(yM (rB ab a b)).length<1000000:=by
 have q:=h.n;have d:=h.m
 cases g:rB ab a b with
 | none=>simp[yM]
 | some e=>
   have k:=(Nc f g).ls.sum;have l:aS (a1 (λi=>fY a i*rd (ab.row i).rhs) ab.rows.length) 5200:=by
    refine en (vt (t:=400+30) λi _=>kt (c i) (jg (vi h i).1 (by decide))) ?_;exact aY (Cz (gK d (bg (400+30+1)))) (by decide)
   have m:∀j,aS (ub ab b (fY a) j) 5240:=λj=>by
    have n:aS (a1 (λi=>fY a i*ab.q.A i j) ab.rows.length) 5200:=by
     refine en (vt (t:=400+30) λi _=>kt (c i) (LQ h i j)) ?_;exact aY (Cz (gK d (bg (400+30+1)))) (by decide)
    have o:aS (d0 ab b j) 30:=by
     unfold d0;split
     ·exact jg (o8 h j).2.2 (by decide)
     ·exact pR (by decide)
    exact en (S' o n) (by omega)
   have p:aS (a1 (λj=>ub ab b (fY a) j*rd (if ub ab b (fY a) j<0 then(ab.af j).up else(ab.af j).low)) ab.a.length) 31700:=by
    refine en (vt (t:=5240+30) λj _=>kt (m j) ?_) ?_
    ·split
     ·exact jg (o8 h j).2.1 (by decide)
     ·exact jg (o8 h j).1 (by decide)
    ·grind
   have a:aS e 37000:=by rw[k];exact en (s0 l p) (by omega)
   have:=R2 a (by decide);show(cZ e).length<_;omega
theorem RU(c a b:Nat)(d:1<c)(h:a<b):c^a<c^b:=Nat.pow_lt_pow_right d h
theorem M3{q:Rat}(h:cu (dj 1446) q):aS q 400:=by
 have a:dj 1446<4294967296^400:=by
  have:dj 1446<=dj 9^161:=by rw[To];exact vu (by decide)
  have b:dj 9^161<=4294967296^161:=x9 (by rw[gv];decide) _;exact cV (aY this b) (RU 4294967296 161 400 (by decide) (by decide))
 exact⟨cV h.1 a,cV h.2 a⟩
theorem SZ(h:d' ab)(g:ab.I=true){c:hE}(b:p0 ab (mo ab.q (eU ab)) (lh ab.q (eU ab)) c)(d:c.st=2):(yM (rB ab c.d false)).length<1000000:=by
 rcases b with⟨T,a,uq,hw,HZ⟩ | ⟨T,af,uq,he,HY⟩ | ⟨T,uq,he⟩
 ·obtain⟨c,b,_⟩:=lr hw;have b:off ab.q T.v (T.rows a)≠0:=by simpa using b
  have j:(List.range ab.q.m).map (k8 ab.q T a)=(List.range ab.rows.length).map λi=>cZ (pU ab.q T a (ab.a.length+i)):=List.map_congr_left λi e=>SN uq.1.inv.y c b i;have k:1<=dj 1446:=Tn 1446;have f:∀i,cu (dj 1446) (pU ab.q T a (ab.a.length+i)):=λi=>TN (B:=dj 1446) uq.1.inv.y k c b (λ_ b=>uq.1.Gs h c b) _;refine Nf h g λi=>?_;show aS (fY ((List.range ab.q.m).map (k8 ab.q T a)) i) 400;rw[j];by_cases e:i<ab.rows.length
  ·rw[R8 e (vN (f i) (by decide))];exact M3 (f i)
  ·unfold fY;rw[il,gr (by simp;omega)];exact jg (by simp) (by decide)
 ·cases d
 ·cases d
end
end Go.Dam.C
namespace Go.Dam.C
open Go Go.Dam
def uh(_:Perm)(args:List Value)(H:ad):Option (Value×ad):=match args with
 | []=>bif j0 H then some (.bool true,H) else none
 | _=>none
structure oU(X:ar):Prop extends ep X where
 begun:X.eS F.BD=some uh
 gI:Has X F.gI C.gI
 mG:Has X F.mG C.mG
variable{X:ar}{pm:Perm}{H aa bL aj:ad}{n:Nat}
theorem M6(a:oU X)(b:Tab H):Call X pm F.BD [] H λr aa=>aa=H/\r=.bool true:=by
 refine Call.over a.begun (v:=.bool true) (aa:=H) ?_ ⟨rfl,rfl⟩;simp only[uh,kL b];rfl
theorem pX(a:oU X){l:List UInt8}{n:Nat}(_:n<=1000):Call X pm F.gI [aA l,.int .i64 (n:Int)] H λr aa=>aa=H/\r=aA (l.take n):=by
 refine Call.has a.gI rfl ?_;by_cases h:n<l.length
 ·simp[h,show n<=l.length by omega,]
 ·simp[h,];rw[mZ (by omega)]
end Go.Dam.C
namespace Go.Dam.C
open Go Go.Dam
variable{X:ar}{pm:Perm}{H aa bL aj:ad}{n:Nat}
def fM(ak:Nat):Value->Prop
 | .slice (some a) n _=>ak<=a.block/\0<n
 | _=>True
theorem c8.put{v:Value}{m w ak b:Nat}{P a:Nat->List Value->Prop}(h:c8 H v m w P)(c:fM ak v)(q:b<ak)(x:bk)(e:∀i cs,i<m->P i cs->a i cs):c8 (H.put b x) v m w a:=by
 obtain⟨f,g,rfl,j⟩:=h.ex;refine⟨f,g,rfl,λi b=>?_⟩;obtain⟨d,k,y,l,cs,rfl,m,n,o,p⟩:=j i b;have c:ak<=d:=c.1;exact⟨d,k,y,l,cs,rfl,by rw[a7 (by omega)];exact m,n,o,e i cs b p⟩
def mu(H:ad)(ak:Nat)(v:Value)(l:List bQ):Prop:=c8 H v l.length 5 λi b=>∃r a,l[i]? = some r/\b=r.cells a/\gB H a r.j/\fM ak a
theorem mu.rows{ak:Nat}{v:Value}{l:List bQ}(h:mu H ak v l):iM H v l:=c8.imp h (λ_ _ e=>e) λ_ _ _ ⟨r,a,b,c,d,_⟩=>⟨r,a,b,c,d⟩
theorem mu.ext{ak:Nat}{v:Value}{l:List bQ}(h:mu H ak v l)(e:Ext H aa):mu aa ak v l:=c8.imp h e λ_ _ _ ⟨r,a,b,c,d,f⟩=>⟨r,a,b,c,d.ext e,f⟩
theorem mu.put{ak b:Nat}{v:Value}{l:List bQ}(h:mu H ak v l)(c:fM ak v)(a:b<ak)(x:bk):mu (H.put b x) ak v l:=
 c8.put h c a x λ_ _ _ ⟨r,c,d,e,f,b⟩=>⟨r,c,d,e,c8.put f b a x λ_ _ _ h=>h,b⟩
def hC(H:ad)(ak:Nat)(r:Value)(ab:aI):Prop:=∃a b,r=.agg #[a,b]/\gC H a ab.a/\mu H ak b ab.rows/\fM ak a/\fM ak b
theorem hC.ab{ak:Nat}{r:Value}{ab:aI}(h:hC H ak r ab):iL H r ab:=by
 obtain⟨a,b,rfl,c,d,_⟩:=h;exact⟨a,b,rfl,c,d.rows⟩
theorem hC.ext{ak:Nat}{r:Value}{ab:aI}(h:hC H ak r ab)(e:Ext H aa):hC aa ak r ab:=by
 obtain⟨a,b,rfl,c,d,f⟩:=h;exact⟨a,b,rfl,c.ext e,d.ext e,f⟩
theorem hC.put{ak b:Nat}{r:Value}{ab:aI}(h:hC H ak r ab)(a:b<ak)(x:bk):hC (H.put b x) ak r ab:=by
 obtain⟨d,e,rfl,f,g,b,c⟩:=h;exact⟨d,e,rfl,c8.put f b a x λ_ _ _ h=>h,g.put c a x,b,c⟩
def dy.cut(c:dy):dy:={c with low:=c.low.take 20,up:=c.up.take 20,cost:=c.cost.take 20}
def bQ.cut(r:bQ):bQ:={r with j:=(r.j.take 8).map λc=>{c with v:=c.v.take 20},rhs:=r.rhs.take 30}
def aI.cut(ab:aI):aI:=⟨(ab.a.take 6).map dy.cut,(ab.rows.take 6).map bQ.cut⟩
theorem aI.NL(ab:aI):d' ab.cut:=by
 refine⟨by simp[aI.cut];omega,by simp[aI.cut];omega,λc a=>?_,λr b=>?_⟩
 ·obtain⟨c,_,rfl⟩:=k1.1 a;simp only[dy.cut,k4];omega
 ·obtain⟨r,_,rfl⟩:=k1.1 b;simp only[bQ.cut,k4,pG];refine⟨by omega,by omega,λc a=>?_⟩;obtain⟨c,_,rfl⟩:=k1.1 a;simp only[k4];omega
def eg(H:ad)(v:Value)(m w:Nat)(P:Nat->List Value->Prop):Prop:=∃a b,v=.slice a m b/\m<=b/\(a=none->m=0)/\∀d,a=some d->∃b c a,d=⟨b,c,none⟩/\(H.get b=some (.ro a)∨H.get b=some (.cells a (.n w)))/\c+m*w<=a.length/\∀i,i<m->∃b,bx a (c+i*w) w=some b/\P i b
theorem eg.aP{v:Value}{m w:Nat}{P:Nat->List Value->Prop}(h:eg H v m w P):c8 H v m w P:=by
 obtain⟨b,i,rfl,_,j,k⟩:=h;refine⟨b,i,rfl,λl m=>?_⟩
 cases b with
 | none=>have:=j rfl;omega
 | some _=>
   obtain⟨c,d,e,rfl,a,_,n⟩:=k _ rfl;obtain⟨f,g,h⟩:=n l m
   rcases a with a | a
   ·exact⟨c,d,_,e,f,rfl,a,rfl,g,h⟩
   ·exact⟨c,d,_,e,f,rfl,a,rfl,g,h⟩
theorem eg.imp{v:Value}{m w:Nat}{P a:Nat->List Value->Prop}(h:eg H v m w P)(e:Ext H aa)(b:∀i cs,i<m->P i cs->a i cs):eg aa v m w a:=by
 obtain⟨c,d,rfl,f,g,j⟩:=h;refine⟨c,d,rfl,f,g,λk l=>?_⟩;obtain⟨m,n,o,rfl,p,q,r⟩:=j k l;exact⟨m,n,o,rfl,p.imp (e _ _) (e _ _),q,λi a=>(r i a).imp λcs h=>⟨h.1,b i cs a h.2⟩⟩
def rf(H:ad)(v:Value)(l:List bQ):Prop:=eg H v l.length 5 λi a=>∃r b,l[i]? = some r/\a=r.cells b/\eg H b r.j.length 2 λi a=>∃c,r.j[i]? = some c/\a=c.cells
def mr(H:ad)(v:Value)(ab:aI):Prop:=∃a b,v=.agg #[a,b]/\(eg H a ab.a.length 5 λi a=>∃c,ab.a[i]? = some c/\a=c.cells)/\rf H b ab.rows
theorem rf.ext{v:Value}{l:List bQ}(h:rf H v l)(e:Ext H aa):rf aa v l:=eg.imp h e λ_ _ _ ⟨r,a,b,c,d⟩=>⟨r,a,b,c,d.imp e λ_ _ _ h=>h⟩
theorem mr.ext{v:Value}{ab:aI}(h:mr H v ab)(e:Ext H aa):mr aa v ab:=by
 obtain⟨a,b,rfl,c,d⟩:=h;exact⟨a,b,rfl,c.imp e λ_ _ _ h=>h,d.ext e⟩
theorem mr.ab{v:Value}{ab:aI}(h:mr H v ab):iL H v ab:=by
 obtain⟨a,b,rfl,c,d⟩:=h;exact⟨a,b,rfl,c.aP,c8.imp d.aP (λ_ _ e=>e) λ_ _ _ ⟨r,a,b,c,d⟩=>⟨r,a,b,c,d.aP⟩⟩
def L3(X:ar):Prop:=∀(pm:Perm) (H:ad),bs pm H->∀(v:Value) (a:aI),mr H v a->Call X pm F.mG [v] H λr aa=>K pm H aa/\hC aa H.next r a.cut
theorem pg{row cs:List Value}{o w:Nat}(h:bx row o w=some cs):o+w<=row.length/\cs=(row.drop o).take w:=by
 unfold bx at h;by_cases a:o+w<=row.length
 ·rw[cg,ix a,cond_true]at h;exact⟨a,(jF h).symm⟩
 ·rw[cg,l0 a,cond_false]at h;cases h
theorem pf{row:List Value}{o w:Nat}(h:o+w<=row.length):bx row o w=some ((row.drop o).take w):=by
 unfold bx;rw[cg,ix h,cond_true]
theorem AS{row:List Value}{off w n:Nat}(a:0<n)(h:∀i,i<n->∃cs,bx row (off+i*w) w=some cs):∃l,bx row off (n*w)=some l/\l.length=n*w/\∀i,i<n->bx l (i*w) w=bx row (off+i*w) w:=by
 obtain⟨cs,a⟩:=h (n-1) (by omega);have b:=(pg a).1;have e:(n-1)*w+w=n*w:=by
  rw[<-hS];congr 1;omega
 have a:off+n*w<=row.length:=by omega
 refine⟨_,pf a,by simp;omega,λi a=>?_⟩;have b:i*w+w<=n*w:=by
  rw[<-hS];exact e8 _ a
 rw[pf (show off+i*w+w<=row.length by omega),pf (by simp;omega)];congr 1;rw[List.drop_take,List.take_take,List.drop_drop];congr 1;omega
theorem NG{w cc n ah b:Nat}{fx:List Nat}{l:List Value}(a:0<n)(a:l.all c6=true)(c:1<=w)(d:n<=1000)(e:cc<=200):
 (eN w cc (.slice none 0 0) l n).runT ⟨ah,fx,some b⟩ H=some (.slice (some ⟨b,0,none⟩) n n,H.put b (.cells l (.n w)),[],[b]):=by
 have f:n*cc<=17179869184:=aY (gK d e) (by decide);unfold eN;simp only[a];simp[Perm.make,Perm.pick,f,c,show ¬n=0 by omega,show n<=17179869184 by omega]
theorem z1{w cc ah b:Nat}{fx:List Nat}{l:List Value}:(eN w cc (.slice none 0 0) l 0).runT ⟨ah,fx,some b⟩ H=some (.slice none 0 0,H,[],[]):=by
 unfold eN;simp
def fp(H:ad)(b n w:Nat)(l:List Value):ad:=if n=0 then H else H.put b (.cells l (.n w))
def iS(b n:Nat):List Nat:=if n=0 then[] else[b]
theorem copyV{w cc n ah b:Nat}{fx:List Nat}{l:List Value}(a:l.all c6=true)(c:1<=w)(d:n<=1000)(e:cc<=200):
 (eN w cc (.slice none 0 0) l n).runT ⟨ah,fx,some b⟩ H=some (aP b n,fp H b n w l,[],iS b n):=by
 by_cases h:n=0
 ·subst h;exact z1
 ·rw[NG (by omega) a c d e,cO (by omega),fp,aC h,iS,aC h]
theorem o9{b n w c:Nat}{l:List Value}(h:c≠b):(fp H b n w l).get c=H.get c:=by
 unfold fp;split
 ·rfl
 ·rw[a7 h]
@[simp] theorem tY{b n w:Nat}{l:List Value}:(fp H b n w l).next=H.next:=by unfold fp;split<;>rfl
theorem rF{b n w:Nat}{l:List Value}(h:0<n):(fp H b n w l).get b=some (.cells l (.n w)):=by
 unfold fp;rw[aC (by omega),b1]
theorem wK{b n x:Nat}(h:b≠x):du (iS b n) [x]=true/\du [x] (iS b n)=true:=by
 unfold iS;split
 ·exact⟨rfl,rfl⟩
 ·exact⟨fq h,fq (Ne.symm h)⟩
end Go.Dam.C
namespace Go.Dam.C
open Go Go.Dam Go.RowKit
section
variable{O:b0}{P:Program}{W:World}
def ek(O:b0)(W:World)(aH:Value)(Q:ad->Value->Prop):Prop:=∀γ H,In O (λ_=>True) W γ H->∃a b v,In O (λ_=>True) W a b/\γ.le a/\Ext H b/\aD a v aH/\Q b v
def wk(Q:ad->Value->Prop):Prop:=∀H a v,Ext H a->Q H v->Q a v
theorem ek.plain{v:Value}(h:plainCell v=true):ek O W v λ_ u=>u=v:=λγ H a=>⟨γ,H,v,a,.refl _,.refl _,.plainCell h,rfl⟩
theorem ek.imp{v:Value}{Q a:ad->Value->Prop}(h:ek O W v Q)(g:∀H u,Q H u->a H u):ek O W v a:=λγ H a=>
 let ⟨b,c,u,d,e,f,i,j⟩:=h γ H a;⟨b,c,u,d,e,f,i,g _ _ j⟩
theorem ek.list{V:Nat->Value}{Q:Nat->ad->Value->Prop}(b:∀i,wk (Q i)):∀k,(∀i,i<k->ek O W (V i) (Q i))->∀γ H,In O (λ_=>True) W γ H->
 ∃a aa,∃u:Nat->Value,In O (λ_=>True) W a aa/\γ.le a/\Ext H aa/\∀i,i<k->aD a (u i) (V i)/\Q i aa (u i)
 | 0,_,γ,H,a=>⟨γ,H,λ_=>.bool true,a,.refl _,.refl _,λi a=>absurd a (hz _)⟩
 | k+1,h,γ,H,a=>by
   obtain⟨f,g,u,j,l,m,n⟩:=ek.list b k (λi a=>h i (by omega)) γ H a;obtain⟨a,o,v,p,c,d,q,r⟩:=h k (by omega) f g j;refine⟨a,o,λi=>if i=k then v else u i,p,l.trans c,m.trans d,λi _=>?_⟩;by_cases e:i=k
   ·subst e;simp only[if_true];exact⟨q,r⟩
   ·simp only[e,if_false];obtain⟨p,q⟩:=n i (by omega);exact⟨p.mono c,b i _ _ _ d q⟩
theorem ek.nil{w:Nat}{Q:ad->Nat->List Value->Prop}:ek O W (.slice none 0 0) λH u=>eg H u 0 w (Q H):=λγ H a=>
 ⟨γ,H,_,a,.refl _,.refl _,.pM,none,0,rfl,bg _,λ_=>rfl,λ_ h=>by cases h⟩
theorem ek.slice{a:Addr}{len cap w:Nat}{V:Nat->Value}{Q:Nat->ad->Value->Prop}(s:∀i,wk (Q i))(l:len<=cap)(z:0<w)(t:∀j,j<cap*w->W.cell? (a.add j)=some (V j))(h:∀j,j<len*w->ek O W (V j) (Q j)):
 ek O W (.slice (some a) len cap) λH v=>eg H v len w λi cs=>∃u:Nat->Value,cs=(List.range w).map (λk=>u (i*w+k))/\∀k,k<w->Q (i*w+k) H (u (i*w+k)):=by
 intro γ H c;obtain⟨m,d,u,q,A,B,x⟩:=ek.list s (len*w) h γ H c;have N:((List.range (len*w)).map u).length=len*w:=by simp
 have C:br m ((List.range (len*w)).map u) ((List.range (len*w)).map V):=br.oc (by simp) λi v _ p r=>by
  rw[iw]at p r;by_cases a:i<len*w
  ·rw[pF a]at p r;cases p;cases r;exact(x i a).1
  ·rw[gr (by simpa using a)]at p;cases p
 obtain⟨_,_,_,_⟩:=q.uk;obtain⟨b,o,D,E⟩:∃b o,nF W (λ_=>True) b o ((List.range (len*w)).map V)/\aD (m.set d.next ⟨b,o,0,0⟩) (.slice (some ⟨d.next,0,none⟩) len cap) (.slice (some a) len cap):=by
  by_cases F:cap=0
  ·subst F;obtain rfl:len=0:=by omega
   obtain⟨a,b,f,g⟩:=q.zR;exact⟨1,0,⟨trivial,a,b,f,g,by simp,by simp⟩,.ks (aL.fa _ _ _)⟩
  ·have G:0<cap*w:=pC (by omega) z;have f:=t 0 G;obtain⟨b,o,H⟩:=a;have I:H=none:=by simpa [Addr.add]using World.cell?_spot f
   subst I;obtain⟨a,h,k,g⟩:∃a h k,W.heap[b]? = some (.cells a h k):=by
    unfold World.cell? at f;split at f
    ·rename_i a e J g;exact⟨a,e,J,by simpa [Addr.add]using g⟩
    ·cases f
   have u:∀i,i<cap*w->a[o+i]? = some (V i):=by
    intro i c;have b:=t i c;rw[add_eq]at b;simpa [World.cell?,g]using b
   have O:=(e'.1 (u (cap*w-1) (by omega))).1;have P:len*w<=cap*w:=e8 _ l;refine⟨b,o,⟨trivial,a,h,k,g,by simp;omega,λi v e=>?_⟩,?_⟩
   ·rw[iw]at e;by_cases b:i<len*w
    ·rw[pF b]at e;cases e;exact u i (by omega)
    ·rw[gr (by simpa using b)]at e;cases e
   ·have:=aD.fb (γ:=m.set d.next ⟨b,o,0,0⟩) (b:=d.next) (off:=0) (n:=len) (cap:=cap) (cG:=cap) (L:=⟨b,o,0,0⟩) (aL.fa _ _ _) (bg _) l (.inl rfl);simpa using this
 obtain⟨K,M,y⟩:=q.add D C;refine⟨_,_,_,K,A.trans M,B.trans y,E,_,cap,rfl,l,(λh=>by cases h),λa h=>?_⟩;cases h;refine⟨d.next,0,_,rfl,.inl b4,by simp,λi c=>⟨_,pf ?_,u,?_,λk j=>s _ _ _ _ y (x _ ?_).2⟩⟩
 ·have:i*w+w<=len*w:=by rw[<-hS];exact e8 _ c
  simp;omega
 ·apply nb;intro k;by_cases j:k<w
  ·have:i*w+w<=len*w:=by rw[<-hS];exact e8 _ c
   rw[kZ j,ki,iw,iw,pF j,pF (by omega),Nat.zero_add];rfl
  ·rw[gr (by simp;omega),gr (by simpa using j)]
 ·have:i*w+w<=len*w:=by rw[<-hS];exact e8 _ c
  omega
theorem yC{v:Value}:wk λ_ u=>u=v:=λ_ _ _ _ h=>h
theorem eg.qV{m w:Nat}{P:Nat->List Value->Prop}:wk λH v=>eg H v m w P:=λ_ _ _ e h=>eg.imp h e λ_ _ _ h=>h
def eV:Value->List UInt8
 | .string s=>s.data.toList
 | _=>[]
def qu:Value->Int
 | .int _ n=>n
 | _=>0
def wy:Value->Bool
 | .bool b=>b
 | _=>false
def hs(v:Value):Prop:=∃s,v=.string s
def n4(v:Value):Prop:=∃n,v=.int .i64 n
def rX(v:Value):Prop:=∃b,v=.bool b
theorem hs.st{v:Value}(h:hs v):v=aA (eV v):=by obtain⟨_,rfl⟩:=h;rfl
theorem n4.int{v:Value}(h:n4 v):v=.int .i64 (qu v):=by obtain⟨_,rfl⟩:=h;rfl
theorem rX.bool{v:Value}(h:rX v):v=.bool (wy v):=by obtain⟨_,rfl⟩:=h;rfl
theorem hs.lift{v:Value}(h:hs v):ek O W v λ_ u=>u=v:=by obtain⟨_,rfl⟩:=h;exact .plain rfl
theorem n4.lift{v:Value}(h:n4 v):ek O W v λ_ u=>u=v:=by obtain⟨_,rfl⟩:=h;exact .plain rfl
theorem rX.lift{v:Value}(h:rX v):ek O W v λ_ u=>u=v:=by obtain⟨_,rfl⟩:=h;exact .plain rfl
def tp(W:World)(w:Nat)(v:Value)(E:(Nat->Value)->Prop):Prop:=v=.slice none 0 0∨∃b c a,∃V:Nat->Value,v=.slice (some b) c a/\c<=a/\(∀j,j<a*w->W.cell? (b.add j)=some (V j))/\∀i,i<a->E λk=>V (i*w+k)
def tr(W:World)(v:Value):Prop:=tp W 1 v λV=>hs (V 0)
def tf(W:World)(v:Value):Prop:=tp W 2 v λV=>n4 (V 0)/\hs (V 1)
def vQ(W:World)(v:Value):Prop:=tp W 5 v λV=>hs (V 0)/\hs (V 1)/\hs (V 2)/\hs (V 3)/\rX (V 4)
def RowsIn(W:World)(v:Value):Prop:=tp W 5 v λV=>hs (V 0)/\n4 (V 1)/\tf W (V 2)/\hs (V 3)/\hs (V 4)
theorem tr.lift{v:Value}(h:tr W v):∃l,ek O W v λH u=>iN H u l:=by
 rcases h with rfl | ⟨o,e,f,V,rfl,p,q,g⟩
 ·exact⟨[],λγ H a=>⟨γ,H,_,a,.refl _,.refl _,.pM,iN.nil⟩⟩
 ·refine⟨(List.range e).map λi=>eV (V i),(ek.slice (w:=1) (Q:=λj _ u=>u=V j) (λ_=>yC) p (by decide) q λj _=>?_).imp λH u h=>?_⟩
  ·have:=g j (by omega);simp only[Nat.mul_one,Nat.add_zero]at this;exact this.lift
  ·obtain⟨k,f,rfl,_,r,s⟩:=h;refine⟨k,f,by simp,λi a=>?_⟩;have a:i<e:=by simpa using a
   cases k with
   | none=>have:=r rfl;omega
   | some o=>
     obtain⟨h,m,n,rfl,b,_,t⟩:=s _ rfl;obtain⟨_,v,u,rfl,f⟩:=t i a;have e:=f 0 (by decide);simp only[Nat.mul_one,Nat.add_zero]at e;have f:=(pg v).2;have c:=congrArg (λl=>l[0]?) f;simp[e]at c;have d:=g i (by omega);simp only[Nat.mul_one,Nat.add_zero]at d;exact b.elim (λb=>⟨h,m,_,n,V i,rfl,b,rfl,c.symm,eV (V i),by simp[a],d.st⟩) λb=>⟨h,m,_,n,V i,rfl,b,rfl,c.symm,eV (V i),by simp[a],d.st⟩
theorem tf.lift{v:Value}(h:tf W v):∃l:List dq,ek O W v λH u=>eg H u l.length 2 λi cs=>∃c,l[i]? = some c/\cs=c.cells:=by
 rcases h with rfl | ⟨_,b,_,V,rfl,c,d,a⟩
 ·exact⟨[],ek.nil⟩
 ·refine⟨(List.range b).map λi=>⟨qu (V (i*2+0)),eV (V (i*2+1))⟩,(ek.slice (w:=2) (Q:=λj _ u=>u=V j) (λ_=>yC) c (by decide) d λj _=>?_).imp λH u h=>?_⟩
  ·obtain⟨f,g⟩:=a (j/2) (by omega);have e:j=j/2*2+0∨j=j/2*2+1:=by omega
   rcases e with e | e<;>rw[e]
   ·exact f.lift
   ·exact g.lift
  ·simp only[pG,x1];refine eg.imp h (λ_ _ e=>e) λi cs c ⟨u,e,b⟩=>⟨⟨qu (V (i*2+0)),eV (V (i*2+1))⟩,by simp[c],?_⟩;obtain⟨c,d⟩:=a i (by omega);have a:=b 0 (by decide);have f:=b 1 (by decide);rw[e];show[u (i*2+0),u (i*2+1)]=_;rw[a,f];show[V (i*2+0),V (i*2+1)]=[.int .i64 (qu (V (i*2+0))),aA (eV (V (i*2+1)))];rw[<-c.int,<-d.st]
theorem vQ.lift{v:Value}(h:vQ W v):∃l:List dy,ek O W v λH u=>eg H u l.length 5 λi cs=>∃c,l[i]? = some c/\cs=c.cells:=by
 rcases h with rfl | ⟨_,a,_,V,rfl,c,d,b⟩
 ·exact⟨[],ek.nil⟩
 ·refine⟨(List.range a).map λi=>⟨eV (V (i*5+0)),eV (V (i*5+1)),eV (V (i*5+2)),eV (V (i*5+3)),wy (V (i*5+4))⟩,(ek.slice (w:=5) (Q:=λj _ u=>u=V j) (λ_=>yC) c (by decide) d λj _=>?_).imp λH u h=>?_⟩
  ·obtain⟨f,g,h,i,k⟩:=b (j/5) (by omega);have e:j=j/5*5+0∨j=j/5*5+1∨j=j/5*5+2∨j=j/5*5+3∨j=j/5*5+4:=by omega
   rcases e with e | e | e | e | e<;>rw[e]
   ·exact f.lift
   ·exact g.lift
   ·exact h.lift
   ·exact i.lift
   ·exact k.lift
  ·simp only[pG,x1];refine eg.imp h (λ_ _ e=>e) λi cs c ⟨u,e,a⟩=>⟨⟨eV (V (i*5+0)),eV (V (i*5+1)),eV (V (i*5+2)),eV (V (i*5+3)),wy (V (i*5+4))⟩,by simp[c],?_⟩;obtain⟨c,d,f,g,j⟩:=b i (by omega);rw[e];show[u (i*5+0),u (i*5+1),u (i*5+2),u (i*5+3),u (i*5+4)]=[aA (eV (V (i*5+0))),aA (eV (V (i*5+1))),aA (eV (V (i*5+2))),aA (eV (V (i*5+3))),.bool (wy (V (i*5+4)))];rw[a 0 (by decide),a 1 (by decide),a 2 (by decide),a 3 (by decide),a 4 (by decide),<-c.st,<-d.st,<-f.st,<-g.st,<-j.bool]
theorem RowsIn.lift{v:Value}(h:RowsIn W v):∃l:List bQ,ek O W v λH u=>rf H u l:=by
 rcases h with rfl | ⟨c,k,d,V,rfl,m,n,f⟩
 ·exact⟨[],λγ H a=>⟨γ,H,_,a,.refl _,.refl _,.pM,none,0,rfl,bg _,λ_=>rfl,λc h=>by cases h⟩⟩
 ·have g:∀i,∃l:List dq,i<d->ek O W (V (i*5+2)) λH u=>eg H u l.length 2 λi b=>∃c,l[i]? = some c/\b=c.cells:=λi=>by
   by_cases a:i<d
   ·obtain⟨l,h⟩:=(f i a).2.2.1.lift (O:=O);exact⟨l,λ_=>h⟩
   ·exact⟨[],λh=>absurd h a⟩
  obtain⟨a,l⟩:∃a:Nat->List dq,∀i,i<d->ek O W (V (i*5+2)) λH u=>eg H u (a i).length 2 λd b=>∃c,(a i)[d]? = some c/\b=c.cells:=⟨λi=>(g i).choose,λi=>(g i).choose_spec⟩
  refine⟨(List.range k).map λi=>⟨eV (V (i*5+0)),qu (V (i*5+1)),a i,eV (V (i*5+3)),eV (V (i*5+4))⟩,
   (ek.slice (w:=5) (Q:=λj H u=>if j%5=2 then eg H u (a (j/5)).length 2 λd b=>∃c,(a (j/5))[d]? = some c/\b=c.cells else u=V j) (λj=>?_) m (by decide) n λj _=>?_).imp λH u h=>?_⟩
  ·by_cases e:j%5=2
   ·simp only[e,if_true];exact eg.qV
   ·simp only[e,if_false];exact yC
  ·obtain⟨h,o,_,p,q⟩:=f (j/5) (by omega);have e:j=j/5*5+0∨j=j/5*5+1∨j=j/5*5+2∨j=j/5*5+3∨j=j/5*5+4:=by omega
   rcases e with e | e | e | e | e
   ·simp only[show ¬j%5=2 by omega,if_false];rw[e];exact h.lift
   ·simp only[show ¬j%5=2 by omega,if_false];rw[e];exact o.lift
   ·have:=l (j/5) (by omega);rw[<-e]at this;simp only[show j%5=2 by omega,if_true];exact this
   ·simp only[show ¬j%5=2 by omega,if_false];rw[e];exact p.lift
   ·simp only[show ¬j%5=2 by omega,if_false];rw[e];exact q.lift
  ·unfold rf;simp only[pG,x1];refine eg.imp h (λ_ _ e=>e) λi b c ⟨u,e,b⟩=>⟨⟨eV (V (i*5+0)),qu (V (i*5+1)),a i,eV (V (i*5+3)),eV (V (i*5+4))⟩,u (i*5+2),by simp[c],?_,?_⟩
   ·obtain⟨g,h,_,j,k⟩:=f i (by omega);have a:=b 0 (by decide);have c:=b 1 (by decide);have d:=b 3 (by decide);have f:=b 4 (by decide);rw[aC (by omega)]at a c d f;rw[e];show[u (i*5+0),u (i*5+1),u (i*5+2),u (i*5+3),u (i*5+4)]=[aA (eV (V (i*5+0))),.int .i64 (qu (V (i*5+1))),u (i*5+2),aA (eV (V (i*5+3))),aA (eV (V (i*5+4)))];rw[a,c,d,f,<-g.st,<-h.int,<-j.st,<-k.st]
   ·have a:=b 2 (by decide);rw[aT (by omega),show(i*5+2)/5=i by omega]at a;exact a
def v7(W:World)(v:Value):Prop:=∃a b,v=.agg #[a,b]/\vQ W a/\RowsIn W b
def Fx(W:World)(v:Value):Prop:=∃a b c d e,v=.agg #[a,b,c,d,e]/\n4 a/\hs b/\tr W c/\tr W d/\tr W e
theorem v7.lift{v:Value}(h:v7 W v):∃ab:aI,ek O W v λH u=>mr H u ab:=by
 obtain⟨_,_,rfl,a,b⟩:=h;obtain⟨c,e⟩:=a.lift (O:=O);obtain⟨a,f⟩:=b.lift (O:=O);refine⟨⟨c,a⟩,λγ H b=>?_⟩;obtain⟨g,i,a,j,k,l,m,n⟩:=e γ H b;obtain⟨e,o,b,p,c,d,q,r⟩:=f g i j;exact⟨e,o,.agg #[a,b],p,k.trans c,l.trans d,.agg (.cons (m.mono c) (.cons q .nil)),a,b,rfl,eg.qV _ _ _ d n,r⟩
theorem Fx.lift{v:Value}(h:Fx W v):∃a:hE,ek O W v λH u=>vZ H u a:=by
 obtain⟨_,_,_,_,_,rfl,a,c,d,e,g⟩:=h;obtain⟨x,i⟩:=d.lift (O:=O);obtain⟨j,k⟩:=e.lift (O:=O);obtain⟨r,l⟩:=g.lift (O:=O);obtain⟨n,rfl⟩:=a;obtain⟨s,rfl⟩:=c;refine⟨⟨n,s.data.toList,x,j,r⟩,λγ H a=>?_⟩;obtain⟨g,j,c,m,o,p,q,t⟩:=i γ H a;obtain⟨i,r,d,u,e,f,v,w⟩:=k g j m;obtain⟨j,k,g,m,a,b,x,y⟩:=l i r u;exact⟨j,k,.agg #[.int .i64 n,.string s,c,d,g],m,(o.trans e).trans a,(p.trans f).trans b,.agg (.cons (.int _ _) (.cons (.str _) (.cons ((q.mono e).mono a) (.cons (v.mono a) (.cons x .nil))))),c,d,g,rfl,t.ext (f.trans b),w.ext b,y⟩
section
variable{re:Type}{enc:TypeId×Value->re}{base:Nat}{held:Bool}
theorem Du{t e l w:Nat}{v:Value}{x:DataW re×List MemPlace}{E:(Nat->Value)->Prop}(o:P.underlying t=some (.slice e))(p:P.cellsOf e=w)(h:DataW.trod enc P W base (λ_=>true) held l t [v]=some x)
 (q:∀(V:Nat->Value) n y,DataW.trod enc P W base (λ_=>true) held n e ((List.range w).map V)=some y->E V):tp W w v E:=by
 rcases Deep.open_slice o h with⟨e4,_⟩ | ⟨a,len,cap,m,n,D,F2,e4,_,g',_,hm,_,A1⟩
 ·exact .inl (by simpa using e4)
 ·have hm:m=cap:=by simpa using hm
  subst hm;rw[p]at A1;refine .inr ⟨a,len,m,λj=>(W.cell? (a.add j)).getD (.bool true),by simpa using e4,g',?_⟩;have f:∀i,i<m->∃b,b.length=w/\(∀k,k<w->W.cell? (a.add (i*w+k))=b[k]?)/\DataW.trod enc P W base (λ_=>true) held n e b=some (D i,F2 i):=λi c=>by
   obtain⟨b,a,e⟩:=A1 i c;obtain⟨_,g,h⟩:=World.cells?_some a;exact⟨b,g,λk a=>by rw[<-h k a,Deep.add_add],e⟩
  refine⟨λj d=>?_,λi c=>?_⟩
  ·have g:0<w:=m' λe=>by subst e;simp at d
   obtain⟨b,e,h,_⟩:=f (j/w) (ox (by rw[dW];exact d));have d:=h (j%w) (kY _ g);rw[show j/w*w+j%w=j by rw[dW];exact qM j w]at d;rw[eu (by rw[e];exact kY _ g)]at d;show _=some ((W.cell? (a.add j)).getD _);rw[d];rfl
  ·obtain⟨b,_,b,a⟩:=f i c;refine q _ n (D i,F2 i) ?_;rw[<-a];congr 1;apply nb;intro k;by_cases a:k<w
   ·rw[iw,pF a,<-b k a];have:=b k a;rw[eu (by omega)]at this;rw[this];simp[this]
   ·rw[gr (by simpa using a),gr (by omega)]
theorem gX{e a:Nat}{cx:Array Field}{cs:List Value}{x:DataW re×List MemPlace}{i:Nat}{f:Field}{u:Value}(c:P.underlying e=some (.struct cx))(h:DataW.trod enc P W base (λ_=>true) held a e cs=some x)
 (a:cx[i]? = some f) (d:P.cellsOf f.type=1) (g:cs[f.offset]? = some u):∃n y,DataW.trod enc P W base (λ_=>true) held n f.type [u]=some y:=by
 obtain⟨_,n,_,_,_,_,j⟩:=DataW.trod_struct c h;have b:=j i f a;have c:=(e'.1 a).1;have e:(cs.drop f.offset).take 1=[u]:=by
  apply nb;intro k
  cases k with
  | zero=>simp[g]
  | succ k=>simp[List.getElem?_take]
 rw[d,e,eu (by omega)]at b;exact⟨n,_,b⟩
theorem lI{t a:Nat}{u:Value}{y:DataW re×List MemPlace}(b:P.underlying t=some .string)(h:DataW.trod enc P W base (λ_=>true) held a t [u]=some y):hs u:=by
 obtain⟨s,e,_⟩:=DataW.trod_string b h;exact⟨s,by simpa using e⟩
theorem A6{t a:Nat}{u:Value}{y:DataW re×List MemPlace}(b:P.underlying t=some (.int .i64))(h:DataW.trod enc P W base (λ_=>true) held a t [u]=some y):n4 u:=by
 obtain⟨s,e,_⟩:=DataW.trod_int b h;exact⟨s,by simpa using e⟩
theorem OX{t a:Nat}{u:Value}{y:DataW re×List MemPlace}(b:P.underlying t=some .bool)(h:DataW.trod enc P W base (λ_=>true) held a t [u]=some y):rX u:=by
 obtain⟨s,e,_⟩:=DataW.trod_bool b h;exact⟨s,by simpa using e⟩
end
end
end Go.Dam.C
namespace Go.Dam.C
open Go Go.Dam
variable{X:ar}{pm:Perm}{H aa bL aj:ad}{n:Nat}
abbrev tyU0:Nat:=T.PZ
abbrev tyU1:Nat:=T.P0
abbrev tyU2:Nat:=T.P1
theorem I5(m:Nat):cH (some (Value.int .i64 (if 6<m then 6 else(m:Int))))=some (min m 6):=by
 by_cases h:6<m
 ·rw[aT h,Nat.min_eq_right (by omega)];rfl
 ·rw[aC h,pB (by omega)];simp[cH]
theorem QC(m:Nat):cH (some (Value.int .i64 (if 8<m then 8 else(m:Int))))=some (min m 8):=by
 by_cases h:8<m
 ·rw[aT h,Nat.min_eq_right (by omega)];rfl
 ·rw[aC h,pB (by omega)];simp[cH]
theorem zY{m w cap cc k:Nat}{d:Option Addr}{P:Nat->List Value->Prop}(h:eg H (.slice d m cap) m w P)(r:k<=m)(g:1<=w)(j:k<=1000)(o:cc<=200)(s:∀i cs,P i cs->cs.all c6=true):
 ∃f l,(∀x∈f,∃y,H.get x=some y)/\(0<k->l.length=k*w/\∀i,i<k->∃cs,bx l (i*w) w=some cs/\P i cs)/\
  ∀aa,Ext H aa->∀ah b fx,(h7 w d 0 k cap cap).runT ⟨ah,fx,some b⟩ aa=some (.slice d k cap,aa,f,[])/\
   (ei w (.slice d k cap) λnew n=>eN w cc (.slice none 0 0) new n).runT ⟨ah,fx,some b⟩ aa=some (aP b k,fp aa b k w l,f,iS b k):=by
 obtain⟨_,_,e,_,t,u⟩:=h;cases e
 cases d with
 | none=>
   obtain rfl:m=0:=t rfl;obtain rfl:k=0:=by omega
   refine⟨[],[],(by simp),λh=>absurd h (Nat.lt_irrefl 0),λaa _ ah b fx=>⟨by unfold h7;simp,?_⟩⟩;unfold ei;exact z1
 | some _=>
   obtain⟨v,off,row,rfl,a,_,f⟩:=u _ rfl;have d:k*w<=m*w:=e8 _ r;have q:∀i,i<k->∃cs,bx ((row.drop off).take (k*w)) (i*w) w=some cs/\P i cs:=λi d=>by
    obtain⟨cs,b,m⟩:=f i (by omega);obtain⟨l,p,_,r⟩:=AS (n:=k) (row:=row) (off:=off) (w:=w) (by omega) (λi d=>(f i (by omega)).imp λ_ h=>h.1);have:=(pg p).2;exact⟨cs,by rw[<-this,r i d,b],m⟩
   refine⟨[v],(row.drop off).take (k*w),λx c=>by rw[lY.1 c];exact a.elim (λh=>⟨_,h⟩) λh=>⟨_,h⟩,λ_=>⟨by simp;omega,q⟩,λaa c ah b fx=>⟨?_,?_⟩⟩
   ·unfold h7
    rcases a with a | a
    ·simp[show k<=cap by omega,c _ _ a]
    ·simp[show k<=cap by omega,c _ _ a]
   ·have b:((row.drop off).take (k*w)).all c6=true:=by
     rw[eD];intro _ i;obtain⟨p,h,rfl⟩:=u5 i;have d:p<k*w:=by
      have:=h;simp at this;omega
     have f:p/w<k:=ox (by rw[dW];exact d);obtain⟨cs,d,i⟩:=q (p/w) f;have f:=(pg d).2;have d:=eD.1 (s _ _ i);have i:p%w<w:=kY _ (by omega);have e:p/w*w+p%w=p:=by rw[dW];exact qM p w
     refine d _ ?_;rw[f];refine List.mem_iff_getElem?.2 ⟨p%w,?_⟩;rw[kZ i,ki,e];exact eu h
    unfold ei
    rcases a with a | a
    ·simp only[aQ.runT,c _ _ a,rowOf];rw[pf (by show off+k*w<=row.length;omega)];simp only;rw[copyV b g j o]
    ·simp only[aQ.runT,c _ _ a,rowOf];rw[pf (by show off+k*w<=row.length;omega)];simp only;rw[copyV b g j o]
def c0(L:List Value)(w n:Nat)(f:Nat->List Value):Prop:=L.length=n*w/\∀j,j<n->(f j).length=w/\∀k,k<w->L[j*w+k]? = (f j)[k]?
theorem c0.of{L:List Value}{w n:Nat}{f:Nat->List Value}(a:L.length=n*w)(h:∀j,j<n->bx L (j*w) w=some (f j)):c0 L w n f:=by
 refine⟨a,λj b=>?_⟩;obtain⟨_,a⟩:=pg (h j b);refine⟨by rw[a];simp;omega,λ_ b=>?_⟩;rw[a,kZ b,ki]
theorem c0.lt{L:List Value}{w n j k:Nat}{f:Nat->List Value}(h:c0 L w n f)(a:j<n)(b:k<w):j*w+k<L.length:=by
 have b:j*w+w<=n*w:=by rw[<-hS];exact e8 _ a
 rw[h.1];omega
theorem c0.row{L:List Value}{w n j:Nat}{f:Nat->List Value}(h:c0 L w n f)(a:j<n):bx L (j*w) w=some (f j):=by
 have b:j*w+w<=n*w:=by rw[<-hS];exact e8 _ a
 rw[pf (by rw[h.1];exact b)];congr 1;apply nb;intro k;by_cases b:k<w
 ·rw[kZ b,ki];exact(h.2 j a).2 k b
 ·rw[gr (by simp;omega),gr (by rw[(h.2 j a).1];omega)]
theorem c0.set{L:List Value}{w n j k:Nat}{f lC:Nat->List Value}(h:c0 L w n f)(l:j<n)(b:k<w)(v:Value)(c:lC j=(f j).set k v)(d:∀i,i<n->i≠j->lC i=f i):c0 (L.set (j*w+k) v) w n lC:=by
 refine⟨by simp[h.1],λi a=>⟨?_,λp f=>?_⟩⟩
 ·by_cases e:i=j
  ·subst e;rw[c];simp;exact(h.2 i a).1
  ·rw[d i a e];exact(h.2 i a).1
 ·by_cases e:i=j
  ·subst e;rw[c];by_cases g:p=k
   ·subst g;rw[uX (h.lt l b),uX (by rw[(h.2 i a).1];exact b)]
   ·rw[sz (by omega),sz (Ne.symm g)];exact(h.2 i a).2 p f
  ·rw[d i a e,sz]
   ·exact(h.2 i a).2 p f
   ·rcases Nat.lt_or_gt_of_ne e with e | e
    ·have:i*w+w<=j*w:=by rw[<-hS];exact e8 _ e
     omega
    ·have:j*w+w<=i*w:=by rw[<-hS];exact e8 _ e
     omega
theorem c0.ex{l:List Value}{w n:Nat}{P:Nat->List Value->Prop}(a:l.length=n*w)(h:∀i,i<n->∃cs,bx l (i*w) w=some cs/\P i cs):∃f,c0 l w n f/\∀i,i<n->P i (f i):=by
 refine⟨λi=>(bx l (i*w) w).getD [],c0.of a λj a=>?_,λj a=>?_⟩
 ·obtain⟨cs,e,_⟩:=h j a;rw[e];rfl
 ·obtain⟨cs,e,p⟩:=h j a;show P j ((bx l (j*w) w).getD []);rw[e];exact p
end Go.Dam.C
namespace Go.Dam.C
open Go Go.Dam
variable{X:ar}{pm:Perm}{H aa bL aj:ad}{n:Nat}
theorem aF.fp(u:aF pm n H aa){b k w:Nat}{l:List Value}(h:n<=b)(a:aa.get b=none)(c:b<aa.next):aF pm n H (C.fp aa b k w l):=by
 unfold C.fp;split
 ·exact u
 ·exact aF.fill u h a c _
theorem jU{a b:List Nat}{n:Nat}(h:∀x∈a,x<n)(c:∀x∈b,n<=x):du a b=true/\du b a=true:=by
 unfold du;simp only[eD,iq,List.contains_eq_mem,decide_eq_false_iff_not];exact⟨λx a b=>by have:=h x a;have:=c x b;omega,λx a b=>by have:=h x b;have:=c x a;omega⟩
theorem rG{b n x:Nat}(h:x∈iS b n):x=b:=by
 unfold iS at h;split at h
 ·cases h
 ·simpa using h
structure eo(pm:Perm)(aj H:ad)(c7 cb cP cA c3 ct:Nat)(eO cB:Nat->List Value):Prop where
 k:K pm aj H
 r:H.get c7=some (.cells [.slice none 0 0,.slice none 0 0] (.t tyU1))
 x:H.get cb=some (.cells [aP cP c3,aP cA ct] (.t tyU2))
 c:0<c3->∃L,H.get cP=some (.cells L (.n 5))/\c0 L 5 c3 eO
 w:0<ct->∃L,H.get cA=some (.cells L (.n 5))/\c0 L 5 ct cB
structure oV(aj:ad)(c7 cb cP cA:Nat):Prop where
 bX:aj.next<=c7
 cv:c7<cP
 cF:cP<cA
 dw:cA<cb
variable{c7 cb cP cA c3 ct:Nat}{eO cB:Nat->List Value}
theorem eo.up(s:eo pm aj H c7 cb cP cA c3 ct eO cB)(u:K pm H aa):eo pm aj aa c7 cb cP cA c3 ct eO cB where
 k:=K.trans s.k u
 r:=u.some s.k.h s.r
 x:=u.some s.k.h s.x
 c:=λh=>(s.c h).imp λ_ h=>⟨u.some s.k.h h.1,h.2⟩
 w:=λh=>(s.w h).imp λ_ h=>⟨u.some s.k.h h.1,h.2⟩
theorem eo.put(s:eo pm aj H c7 cb cP cA c3 ct eO cB)(q:oV aj c7 cb cP cA){b:Nat}{y x:bk}(a:cb<b)(a:H.get b=some y)(d:∀o,y≠.cr o):eo pm aj (H.put b x) c7 cb cP cA c3 ct eO cB where
 k:=aF.put s.k (by have:=q.bX;have:=q.cv;have:=q.cF;have:=q.dw;omega) a d _
 r:=by rw[a7 (by have:=q.bX;have:=q.cv;have:=q.cF;have:=q.dw;omega)];exact s.r
 x:=by rw[a7 (by omega)];exact s.x
 c:=λh=>(s.c h).imp λ_ h=>⟨by rw[a7 (by have:=q.cF;have:=q.dw;omega)];exact h.1,h.2⟩
 w:=λh=>(s.w h).imp λ_ h=>⟨by rw[a7 (by have:=q.dw;omega)];exact h.1,h.2⟩
theorem eo.row(s:eo pm aj H c7 cb cP cA c3 ct eO cB)(q:oV aj c7 cb cP cA){a:Nat->List Value}{i k:Nat}{v:Value}(aJ:i<ct)(d:k<5)(e:a i=(cB i).set k v)(f:∀j,j<ct->j≠i->a j=cB j){L:List Value}(b:H.get cA=some (.cells L (.n 5))):
 eo pm aj (H.put cA (.cells (L.set (i*5+k) v) (.n 5))) c7 cb cP cA c3 ct eO a where
 k:=aF.put s.k (by have:=q.bX;have:=q.cv;have:=q.cF;have:=q.dw;omega) b (by simp) _
 r:=by rw[a7 (by have:=q.bX;have:=q.cv;have:=q.cF;have:=q.dw;omega)];exact s.r
 x:=by rw[a7 (by have:=q.dw;omega)];exact s.x
 c:=λh=>(s.c h).imp λ_ h=>⟨by rw[a7 (by have:=q.cF;have:=q.dw;omega)];exact h.1,h.2⟩
 w:=λh=>by
  obtain⟨_,c,g⟩:=s.w h;rw[b]at c;cases c;exact⟨_,b1,g.set aJ d v e f⟩
theorem eo.af(s:eo pm aj H c7 cb cP cA c3 ct eO cB)(q:oV aj c7 cb cP cA){a:Nat->List Value}{i k:Nat}{v:Value}(aJ:i<c3)(d:k<5)(e:a i=(eO i).set k v)(f:∀j,j<c3->j≠i->a j=eO j){L:List Value}(b:H.get cP=some (.cells L (.n 5))):
 eo pm aj (H.put cP (.cells (L.set (i*5+k) v) (.n 5))) c7 cb cP cA c3 ct a cB where
 k:=aF.put s.k (by have:=q.bX;have:=q.cv;have:=q.cF;have:=q.dw;omega) b (by simp) _
 r:=by rw[a7 (by have:=q.bX;have:=q.cv;have:=q.cF;have:=q.dw;omega)];exact s.r
 x:=by rw[a7 (by have:=q.cF;have:=q.dw;omega)];exact s.x
 c:=λh=>by
  obtain⟨_,c,g⟩:=s.c h;rw[b]at c;cases c;exact⟨_,b1,g.set aJ d v e f⟩
 w:=λh=>(s.w h).imp λ_ h=>⟨by rw[a7 (by have:=q.cF;have:=q.dw;omega)];exact h.1,h.2⟩
def wM(c:dq):dq:={c with v:=c.v.take 20}
def wN:dq:=⟨0,[]⟩
theorem L8(hX:oU X)(Q:bs pm aj)(q:oV aj c7 cb cP cA)(s:eo pm aj H c7 cb cP cA c3 ct eO cB)(aW:ct<=6){i:Nat}(aJ:i<ct){r:bQ}{bP:Value}(hr:cB i=r.cells bP)
 (hA:eg aj bP r.j.length 2 λi cs=>∃c,r.j[i]? = some c/\cs=c.cells) {ad:b5}
 (hR:∀aN aa R,Sub [(27,.int .i64 (i:Int)),(26,.int .i64 (ct:Int)),(2,.pointer (some ⟨c7,0,none⟩)),(3,.pointer (some ⟨cb,0,none⟩))] aN->eo pm aj aa c7 cb cP cA c3 ct eO (λj=>if j=i then r.cut.cells R else cB j)->gB aa R r.cut.j->fM H.next R->(∀b y,b≠cA->H.get b=some y->aa.get b=some y)->ad .normal aN aa):
 wp X pm (.code (.seq (.bj [m 29 27,m 4 29]) C.Bd)) [(28,.bool true),(27,.int .i64 (i:Int)),(26,.int .i64 (ct:Int)),(2,.pointer (some ⟨c7,0,none⟩)),(3,.pointer (some ⟨cb,0,none⟩))] H [] ad:=by
 have g:=s.k.h;have q1:=q.bX;have q2:=q.cv;have q3:=q.cF;have q4:=q.dw;have l3:=g.lt s.x;obtain⟨L,hL,cL⟩:=s.w (by omega);have S:=s.x;rw[cO (show 0<ct by omega)]at S;have E:L[i*5+2]? = some bP:=by rw[(cL.2 i aJ).2 2 (by decide),hr];rfl
 obtain⟨_,_,rfl,_⟩:=id hA;obtain⟨aB,lf,hf,T,F⟩:=zY (cc:=24) (k:=min r.j.length 8) (hA.imp (s.k.ext Q) λ_ _ _ h=>h) (Nat.min_le_left _ _) (by decide) (by omega) (by decide) (λi cs ⟨c,_,t⟩=>by rw[t];rfl);have ae:∀x∈aB,x<H.next:=λx e=>by obtain⟨y,hy⟩:=hf x e;exact g.lt hy
 obtain⟨d,aC⟩:∃k,k=min r.j.length 8:=⟨_,rfl⟩;have U:=QC r.j.length;rw[<-aC]at F T U;obtain⟨z,u⟩:∃z,z=H.next:=⟨_,rfl⟩;have V:K pm H (H.up 22):=(K.refl g).up 22;have c1:=(F _ (V.ext g) pm.ah (z+17) pm.ok).1;have W:=(F _ (V.ext g) pm.ah (z+18) pm.ok).2;obtain⟨G,v⟩:∃A,A=fp (H.up 22) (z+18) d 2 lf:=⟨_,rfl⟩;have I:K pm H G:=by rw[v];exact aF.fp V (by omega) (by rw[u];exact g.none 18) (by show z+18<H.next+22;omega)
 rw[<-v]at W;have af:∀j,j≠18->G.get (z+j)=none:=λj l=>by rw[v,o9 (by omega),u];exact g.none j
 have aD:G.next=z+22:=by rw[v,tY,u];rfl
 have ag:=I.some g hL;have aE:=I.some g S;obtain⟨p,w⟩:∃A,A=G.put cA (.cells (L.set (i*5+2) (aP (z+18) d)) (.n 5)):=⟨_,rfl⟩;have J:eo pm aj p c7 cb cP cA c3 ct eO (λj=>if j=i then r.cells (aP (z+18) d) else cB j):=by
  rw[w];exact(s.up I).row q aJ (by decide) (by rw[hr];simp[bQ.cells]) (λj _ h=>by simp[h]) ag
 have aG:∀b i,c6 (aP b i)=true:=λb i=>by unfold aP;split<;>rfl
 have aH:∀b i,(aP b i).cells=#[aP b i]:=λb i=>by unfold aP;split<;>rfl
 have aI:=cL.lt aJ (show 2<5 by decide);have ai:setCells L (i*5+2) [aP (z+18) d]=some (L.set (i*5+2) (aP (z+18) d)):=setCells_one aI;have ak:=λo=>eG (ah:=pm.ah) (ok:=pm.ok) (o:=o) (b:=cA) (by have:=Q.ah;omega);have d1:=(jU (a:=[cb]) (b:=iS (z+18) d) (n:=z) (λx e=>by rw[lY.1 e];omega) (λx e=>by rw[rG e];omega)).2;have l4:cb<z:=by omega
 have l5:cA<z:=by omega
 have al:=λj=>(by rw[u];exact g.none j:(H.up 22).get (z+j)=none);have an:=(by rw[u];exact g.J:(H.up 22).get z=none);simp[-xq];refine cy.of g.ah rfl ?_;rw[<-u];simp[b7,al,an,S,hL,aJ,E,U,c1,W,af,ag, aH,aG,ai,ak,<-w,d1,l4,l5,cj,cd,dM,-ei,-xq];refine⟨⟨λx e=>.inl (.inl (.inl (by have:=ae x e;omega))),λx e=>.inl (.inl (.inl (by have:=ae x e;omega)))⟩,?_⟩;clear U c1 W af aE ai al an;have B:=J.k.h;have ao:=J.x;rw[cO (show 0<ct by omega)]at ao;obtain⟨N,Y,aq⟩:=J.w (by omega);have n2:p.next=z+22:=by rw[w];exact aD
 have e3:N[i*5+3]? = some (aA r.rhs):=by rw[(aq.2 i aJ).2 3 (by decide)];simp[bQ.cells]
 obtain⟨Z,D⟩:∃A,A=(p.up 13).put cA (.cells (N.set (i*5+3) (aA (r.rhs.take 30))) (.n 5)):=⟨_,rfl⟩;have ar:K pm p (p.up 13):=(K.refl B).up 13;have O:eo pm aj Z c7 cb cP cA c3 ct eO (λj=>if j=i then({r with rhs:=r.rhs.take 30}:bQ).cells (aP (z+18) d) else cB j):=by
  rw[D];exact(J.up ar).row q aJ (by decide) (by simp[bQ.cells]) (λj _ h=>by simp[h]) Y
 have aK:setCells N (i*5+3) [aA (r.rhs.take 30)]=some (N.set (i*5+3) (aA (r.rhs.take 30))):=setCells_one (aq.lt aJ (by decide));have l6:cb<p.next:=by omega
 have l7:cA<p.next:=by omega
 simp[-ux];refine cy.of B.ah rfl ?_;simp[b7,B.none,B.J,ao,Y,aJ,e3,-ux];refine eM ar.h (az:=[aA r.rhs,.int .i64 30]) (by simp[B.none]) (by simp) (by simp) rfl (λaL g'=>jR g' (pX hX (n:=30) (by omega))) ?_;rintro _ _-⟨rfl,rfl⟩;simp[B.none,Y,aJ,aK,ak,<-D,l6,l7,cj,cd,jT,dM,ed,-ux];have g3:=O.k.h;have au:=O.x;rw[cO (show 0<ct by omega)]at au;obtain⟨L3,aM,aO⟩:=O.w (by omega);have e4:L3[i*5+2]? = some (aP (z+18) d):=by rw[(aO.2 i aJ).2 2 (by decide)];simp[bQ.cells]
 obtain⟨_,aQ⟩:∃a,aP (z+18) d=.slice a d d:=by
  unfold aP;split
  ·rename_i h;exact⟨none,by rw[h]⟩
  ·exact⟨_,rfl⟩
 rw[aQ]at e4;simp[au,aM,aJ,e4,-A'];obtain⟨f,av⟩:∃f:Nat->dq,∀j,j<r.j.length->r.j[j]? = some (f j):=⟨λj=>r.j.getD j wN,λj l=>by simp[l]⟩;have aR:∀b y,b≠cA->H.get b=some y->Z.get b=some y:=λb y P h=>by
  rw[D,a7 P,qX,w,a7 P];exact I.some g h
 have hM:0<d->∃M,Z.get (z+18)=some (.cells M (.n 2))/\c0 M 2 d (λj=>if j<0 then(wM (f j)).cells else(f j).cells):=λh=>by
  obtain⟨a,b⟩:=T h;refine⟨lf,by rw[D,a7 (by omega),qX,w,a7 (by omega),v];exact rF h,c0.of a λj l=>?_⟩;obtain⟨cs,i,c,E,rfl⟩:=b j l;rw[i];rw[av j (by omega)]at E;cases E;simp
 clear v w D T F
 refine eE (σ:=Unit) d (λ_ _=>[(27,.int .i64 (i:Int)),(26,.int .i64 (ct:Int)),(2,.pointer (some ⟨c7,0,none⟩)),(3,.pointer (some ⟨cb,0,none⟩)),(4,.int .i64 (i:Int))])
  (λk _ aa=>eo pm aj aa c7 cb cP cA c3 ct eO (λj=>if j=i then({r with rhs:=r.rhs.take 30}:bQ).cells (aP (z+18) d) else cB j)/\(0<d->∃M,aa.get (z+18)=some (.cells M (.n 2))/\c0 M 2 d (λj=>if j<k then(wM (f j)).cells else(f j).cells))/\∀b y,b≠cA->H.get b=some y->aa.get b=some y)
  () (by decide) (by omega) (by simp) ⟨O,hM,aR⟩ (by simp) ?_ ?_
 ·rintro k _ X c ⟨s,aF,aN⟩;obtain⟨M,C,aa⟩:=aF (by omega);have a:=s.k.h;have ab:=s.x;rw[cO (show 0<ct by omega)]at ab;obtain⟨LA,aw,aS⟩:=s.w (by omega);have e5:LA[i*5+2]? = some (aP (z+18) d):=by rw[(aS.2 i aJ).2 2 (by decide)];simp[bQ.cells]
  rw[cO (show 0<d by omega)]at e5;obtain⟨m,ax⟩:∃aT,aT=(f k).v:=⟨_,rfl⟩;have e6:M[k*2+1]? = some (aA m):=by rw[(aa.2 k c).2 1 (by decide),ax];simp[dq.cells]
  have ay:K pm X (X.up 21):=(K.refl a).up 21;obtain⟨HB,H⟩:∃A,A=(X.up 21).put (z+18) (.cells (M.set (k*2+1) (aA (m.take 20))) (.n 2)):=⟨_,rfl⟩;have aU:setCells M (k*2+1) [aA (m.take 20)]=some (M.set (k*2+1) (aA (m.take 20))):=setCells_one (aa.lt c (by decide));have aV:=λo=>eG (ah:=pm.ah) (ok:=pm.ok) (o:=o) (b:=z+18) (by have:=Q.ah;omega);have sB:eo pm aj HB c7 cb cP cA c3 ct eO (λj=>if j=i then({r with rhs:=r.rhs.take 30}:bQ).cells (aP (z+18) d) else cB j):=by
   rw[H];exact(s.up ay).put q (by omega) C (by simp)
  have m1:=a.lt ab;have m2:=a.lt aw;have m3:=a.lt C;have aX:z+18≠cA:=by omega
  simp;refine cy.of a.ah rfl ?_;simp[b7,a.none,a.J,ab,aw,aJ,e5,C,c,e6];refine eM ay.h (az:=[aA m,.int .i64 20]) (by simp[a.none]) (by simp) (by simp) rfl (λaL g'=>jR g' (pX hX (n:=20) (by omega))) ?_;rintro _ _-⟨rfl,rfl⟩;simp[a.none,C,c,aU,aV,<-H,m1,m2,m3,cj,cd,jT,dM,ed];refine⟨sB,λ_=>⟨_,by rw[H];exact b1,aa.set c (by decide) _ ?_ λj l _=>?_⟩,λb y P h=>?_⟩
  ·simp[wM,dq.cells,ax]
  ·by_cases t:j<k
   ·simp[t,show j<k+1 by omega]
   ·simp[t,show ¬j<k+1 by omega]
  ·have:=g.lt h;rw[H,a7 (by omega),qX];exact aN b y P h
 ·rintro _ _ ⟨b,c,k⟩;simp;have a:r.cut.j.length=d:=by simp[bQ.cut];omega
  refine hR _ _ (aP (z+18) d) (by simp) ?_ ?_ ?_ k
  ·have t:(λj=>if j=i then r.cut.cells (aP (z+18) d) else cB j)=(λj=>if j=i then({r with rhs:=r.rhs.take 30}:bQ).cells (aP (z+18) d) else cB j):=by
    funext j;split<;>rfl
   rw[t];exact b
  ·by_cases i:d=0
   ·refine⟨none,0,by rw[a,i];rfl,λj l=>by omega⟩
   ·obtain⟨M,m,n⟩:=c (by omega);refine⟨_,d,by rw[a,cO (by omega)],λj l=>⟨z+18,0,_,M,_,rfl,m,rfl,by rw[Nat.zero_add];exact n.row (by omega),wM (f j),?_,by simp[show j<d by omega]⟩⟩;have o:j<8:=by omega
    simp[bQ.cut, o,av j (by omega)];rfl
  ·unfold aP;split
   ·trivial
   ·rename_i _;exact⟨by show H.next<=z+18;omega,by omega⟩
end Go.Dam.C
namespace Go.Dam.C
open Go Go.Dam
variable{X:ar}{pm:Perm}{H aa bL aj:ad}{n c7 cb cP cA c3 ct:Nat}{eO cB:Nat->List Value}
theorem L6(z:oU X)(N:bs pm aj)(q:oV aj c7 cb cP cA)(s:eo pm aj H c7 cb cP cA c3 ct eO cB)(a:c3<=6){i:Nat}(aJ:i<c3){c:dy}(t:eO i=c.cells){R:b5}
 (O:∀aN aa,Sub [(98,.int .i64 (i:Int)),(97,.int .i64 (c3:Int)),(2,.pointer (some ⟨c7,0,none⟩)),(3,.pointer (some ⟨cb,0,none⟩))] aN->eo pm aj aa c7 cb cP cA c3 ct (λj=>if j=i then c.cut.cells else eO j) cB->(∀b y,b≠cP->H.get b=some y->aa.get b=some y)->R .normal aN aa):
 wp X pm (.code (.seq (.bj [m 100 98,m 6 100]) C.Be)) [(99,.bool true),(98,.int .i64 (i:Int)),(97,.int .i64 (c3:Int)),(2,.pointer (some ⟨c7,0,none⟩)),(3,.pointer (some ⟨cb,0,none⟩))] H [] R:=by
 have g:=s.k.h;have a:=q.bX;have a:=q.cv;have a:=q.cF;have a:=q.dw;have P:=g.lt s.x;obtain⟨L,u,a⟩:=s.c (by omega);have E:=s.x;rw[cO (show 0<c3 by omega)]at E;have Q:=g.lt u;have S:L[i*5+1]? = some (aA c.low):=by rw[(a.2 i aJ).2 1 (by decide),t];rfl
 have T:L[i*5+2]? = some (aA c.up):=by rw[(a.2 i aJ).2 2 (by decide),t];rfl
 have U:L[i*5+3]? = some (aA c.cost):=by rw[(a.2 i aJ).2 3 (by decide),t];rfl
 have V:=a.lt aJ (show 1<5 by decide);have W:=a.lt aJ (show 2<5 by decide);have Y:=a.lt aJ (show 3<5 by decide);have v:K pm H (H.up 39):=(K.refl g).up 39;have Z:=λo=>eG (ah:=pm.ah) (ok:=pm.ok) (o:=o) (b:=cP) (by have:=N.ah;omega);obtain⟨d,w⟩:∃l,l=L.set (i*5+1) (aA (c.low.take 20)):=⟨_,rfl⟩;obtain⟨e,B⟩:∃l,l=d.set (i*5+2) (aA (c.up.take 20)):=⟨_,rfl⟩;obtain⟨F,G⟩:∃l,l=e.set (i*5+3) (aA (c.cost.take 20)):=⟨_,rfl⟩;obtain⟨f,k⟩:∃A,A=(H.up 39).put cP (.cells d (.n 5)):=⟨_,rfl⟩;obtain⟨x,p⟩:∃A,A=f.put cP (.cells e (.n 5)):=⟨_,rfl⟩;obtain⟨A3,D⟩:∃A,A=x.put cP (.cells F (.n 5)):=⟨_,rfl⟩;have I:f.get cP=some (.cells d (.n 5)):=by rw[k];exact b1
 have J:x.get cP=some (.cells e (.n 5)):=by rw[p];exact b1
 have ab:setCells L (i*5+1) [aA (c.low.take 20)]=some d:=by rw[w];exact setCells_one V
 have ad:setCells d (i*5+2) [aA (c.up.take 20)]=some e:=by rw[B];exact setCells_one (by rw[w];simpa using W)
 have ae:setCells e (i*5+3) [aA (c.cost.take 20)]=some F:=by rw[G];exact setCells_one (by rw[B,w];simpa using Y)
 have a:eo pm aj f c7 cb cP cA c3 ct (λj=>if j=i then({c with low:=c.low.take 20}:dy).cells else eO j) cB:=by
  rw[k,w];exact(s.up v).af q aJ (by decide) (by rw[t];simp[dy.cells]) (λj _ h=>by simp[h]) u
 have d:eo pm aj x c7 cb cP cA c3 ct (λj=>if j=i then({c with low:=c.low.take 20,up:=c.up.take 20}:dy).cells else eO j) cB:=by
  rw[p,B];exact a.af q aJ (by decide) (by simp[dy.cells]) (λj _ h=>by simp[h]) I
 have s3:eo pm aj A3 c7 cb cP cA c3 ct (λj=>if j=i then c.cut.cells else eO j) cB:=by
  rw[D,G];exact d.af q aJ (by decide) (by simp[dy.cells,dy.cut]) (λj _ h=>by simp[h]) J
 have a:∀j,f.get (H.next+j)=none/\x.get (H.next+j)=none:=λj=>by
  have b:f.get (H.next+j)=none:=by rw[k,a7 (by omega)];exact g.none j
  exact⟨b,by rw[p,a7 (by omega)];exact b⟩
 have dn:du [cP] [cb]=true:=fq (by omega);have af:=λj=>(a j).1;have ag:=λj=>(a j).2;simp;refine cy.of g.ah rfl ?_;simp[b7,g.none,g.J,E,u,aJ,S,T,U];refine eM v.h (az:=[aA c.low,.int .i64 20]) (by simp[g.none]) (by simp) (by simp) rfl (λM r=>jR r (pX z (n:=20) (by omega))) ?_;rintro _ _-⟨rfl,rfl⟩;simp;refine eM v.h (az:=[aA c.up,.int .i64 20]) (by simp[g.none]) (by simp) (by simp) rfl (λM r=>jR r (pX z (n:=20) (by omega))) ?_;rintro _ _-⟨rfl,rfl⟩;simp;refine eM v.h (az:=[aA c.cost,.int .i64 20]) (by simp[g.none]) (by simp) (by simp) rfl (λM r=>jR r (pX z (n:=20) (by omega))) ?_;rintro _ _-⟨rfl,rfl⟩;simp[g.none,u,aJ,ab,Z,<-k,af,I,ad,<-p,ag,J,ae,<-D,dn,P,Q,cj,cd,jT,dM,ed];refine O _ _ ?_ s3 λb y a h=>?_
 ·simp
 rw[D,a7 a,p,a7 a,k,a7 a,qX];exact h
end Go.Dam.C
namespace Go.Dam.C
open Go Go.Dam
variable{X:ar}{pm:Perm}{H aa bL aj:ad}{n:Nat}
theorem c0.yA{b k w:Nat}{f:Nat->List Value}{P:Nat->List Value->Prop}(h:0<k->∃L,H.get b=some (.cells L (.n w))/\c0 L w k f)(d:∀i,i<k->P i (f i)):c8 H (aP b k) k w P:=by
 by_cases a:0<k
 ·obtain⟨L,e,f⟩:=h a;exact⟨_,k,cO a,λi c=>⟨b,0,_,L,_,rfl,e,rfl,by rw[Nat.zero_add];exact f.row c,d i c⟩⟩
 ·obtain rfl:k=0:=by omega
  exact⟨none,0,rfl,λi _=>by omega⟩
theorem fM.mono{ak cf:Nat}{v:Value}(h:fM ak v)(a:cf<=ak):fM cf v:=by
 unfold fM at*
 split
 ·exact⟨aY a h.1,h.2⟩
 ·trivial
theorem fM.aP{ak b k:Nat}(h:ak<=b):fM ak (aP b k):=by
 unfold C.aP;split
 ·trivial
 ·rename_i _;exact⟨h,by omega⟩
theorem c8.ne{v:Value}{m w ak b:Nat}{P:Nat->List Value->Prop}(h:c8 H v m w P)(a:fM ak v)(q:b<ak)(d:∀c y,c≠b->H.get c=some y->aa.get c=some y):c8 aa v m w P:=by
 obtain⟨b,e,rfl,f⟩:=h.ex;refine⟨b,e,rfl,λi g=>?_⟩;obtain⟨c,j,y,k,l,rfl,m,n,o,p⟩:=f i g;have a:ak<=c:=a.1;exact⟨c,j,y,k,l,rfl,d _ _ (by omega) m,n,o,p⟩
theorem FD(hX:oU X):L3 X:=by
 intro pm H y ad g hv;refine Call.P hX.mG rfl λ_ hQ=>?_;obtain⟨_,_,rfl,M,hr⟩:=hv;obtain⟨ar,au,rfl,_⟩:=id M;obtain⟨av,aw,rfl,_⟩:=id hr;obtain⟨N,I⟩:∃b,b=H.next:=⟨_,rfl⟩;obtain⟨B,O⟩:∃B,B=H.new (.cells [.slice ar g.a.length au,.slice av g.rows.length aw] (.t tyU0)):=⟨_,rfl⟩;have k1:K pm H B:=by rw[O];exact K.new y _
 have g1:=k1.h;have aO:B.get N=some (.cells [.slice ar g.a.length au,.slice av g.rows.length aw] (.t tyU0)):=by rw[O,I];exact b4
 obtain⟨v,ae⟩:∃b,b=B.next:=⟨_,rfl⟩;obtain⟨l,P⟩:∃l,l=B.new (.cells [.slice none 0 0,.slice none 0 0] (.t tyU1)):=⟨_,rfl⟩;have k2:K pm B l:=by rw[P];exact K.new g1 _
 have s:=k2.h;have aQ:l.get v=some (.cells [.slice none 0 0,.slice none 0 0] (.t tyU1)):=by rw[P,ae];exact b4
 have af:=k2.some g1 aO;have Q:=k1.trans k2;have n1:B.next=N+1:=by rw[O,I];rfl
 have B:l.next=v+1:=by rw[P,ae];rfl
 obtain⟨fc,lc,ar,ag,R⟩:=zY (cc:=72) (k:=min g.a.length 6) (M.imp (Q.ext y) λ_ _ _ h=>h) (Nat.min_le_left _ _) (by decide) (by omega) (by decide) (λi D ⟨c,_,m⟩=>by rw[m];rfl);obtain⟨fr,S,ai,aj,T⟩:=zY (cc:=80) (k:=min g.rows.length 6) (eg.imp hr (Q.ext y) λ_ _ _ h=>h) (Nat.min_le_left _ _) (by decide) (by omega) (by decide) (λi D ⟨c,bP,_,m,t⟩=>by
  rw[m];obtain⟨_,_,a,_⟩:=t;rw[a];rfl)
 have ak:∀x∈fc,x<l.next:=λx e=>by obtain⟨ax,B⟩:=ar x e;exact s.lt B
 have U:∀x∈fr,x<l.next:=λx e=>by obtain⟨ax,B⟩:=ai x e;exact s.lt B
 obtain⟨q,ay⟩:∃k,k=min g.a.length 6:=⟨_,rfl⟩;obtain⟨f,az⟩:∃k,k=min g.rows.length 6:=⟨_,rfl⟩;rw[<-ay]at R ag;rw[<-az]at T aj;have m1:=I5 g.a.length;have m2:=I5 g.rows.length;rw[<-ay]at m1;rw[<-az]at m2;obtain⟨z,E⟩:∃z,z=l.next:=⟨_,rfl⟩;have kU:K pm l (l.up 19):=(K.refl s).up 19;have xU:=kU.ext s;obtain⟨V,J⟩:∃A,A=fp (l.up 19) (z+7) q 5 lc:=⟨_,rfl⟩;have al:K pm l V:=by rw[J];exact aF.fp kU (by omega) (by rw[E];exact s.none 7) (by show z+7<l.next+19;omega)
 have c1:=(R _ xU pm.ah (z+6) pm.ok).1;have c2:=(R _ xU pm.ah (z+7) pm.ok).2;have aA:=al.ext s;obtain⟨W,F⟩:∃A,A=fp V (z+15) f 5 S:=⟨_,rfl⟩;have X:∀j,j≠7->V.get (z+j)=none:=λj p=>by rw[J,o9 (by omega),E];exact s.none j
 have B:V.next=z+19:=by rw[J,tY,E];rfl
 have aB:K pm l W:=by rw[F];exact aF.fp al (by omega) (X 15 (by decide)) (by omega)
 have c3:=(T _ aA pm.ah (z+14) pm.ok).1;have c4:=(T _ aA pm.ah (z+15) pm.ok).2;have Y:∀j,j≠7->j≠15->W.get (z+j)=none:=λj p _=>by rw[F,o9 (by omega)];exact X j p
 have aR:W.next=z+19:=by rw[F,tY,B]
 rw[<-J]at c2;rw[<-F]at c4;have aS:=al.some s af;have B:=aB.some s af;simp[y.pick,y.make,ptr,<-I,<-O,  <-ae,<-P,-xr];refine cy.of s.ah rfl ?_;rw[<-E];have aC:=λj=>(by rw[E];exact s.none j:(l.up 19).get (z+j)=none);have aD:=(by rw[E];exact s.J:(l.up 19).get z=none);have an:∀b i,c6 (aP b i)=true:=λb i=>by unfold aP;split<;>rfl
 have aE:∀b i,(aP b i).cells=#[aP b i]:=λb i=>by unfold aP;split<;>rfl
 obtain⟨L,C⟩:∃A,A=W.put (z+17) (.cells [.slice none 0 0,.slice none 0 0] (.t tyU2)):=⟨_,rfl⟩;obtain⟨Z,G⟩:∃A,A=L.put (z+17) (.cells [aP (z+7) q,aP (z+15) f] (.t tyU2)):=⟨_,rfl⟩;have aG:L.get (z+18)=none:=by rw[C,a7 (by omega)];exact Y 18 (by decide) (by decide)
 have ao:L.get (z+17)=some (.cells [.slice none 0 0,.slice none 0 0] (.t tyU2)):=by rw[C];exact b1
 have O:=λo=>eG (ah:=pm.ah) (ok:=pm.ok) (o:=o) (b:=z+17) (by have:=s.ah;omega);have P:N<z:=by omega
 have aq:∀j k,∀x∈iS (z+j) k,z<=x:=λj k x e=>by rw[rG e];omega
 have I:∀x∈[N],x<z:=λx e=>by rw[lY.1 e];omega
 have B:∀x∈[z+17],z<=x:=λx e=>by rw[lY.1 e];omega
 rw[<-E]at ak U;have d1:=λj k=>(jU I (aq j k)).2;have d2:=λj k=>(jU U (aq j k)).2;have d3:=(jU I B).2;have d4:=(jU ak B).2;have d5:=(jU U B).2;have d6:=(wK (n:=q) (show z+7≠z+17 by omega)).2;have d7:=(wK (n:=f) (show z+15≠z+17 by omega)).2;have d8:=jU (a:=iS (z+7) q) (b:=iS (z+15) f) (n:=z+8) (λx e=>by rw[rG e];omega) (λx e=>by rw[rG e];omega);have f1:∀b∈fc,b<z∨z+19<=b:=λb B=>.inl (ak b B);have f2:∀b∈fr,b<z∨z+19<=b:=λb B=>.inl (U b B);simp[d1,d2,d3,d4,d5,d6,d7,  P, dM,b7,aC,aD,af,m1,c1,c2,X,aS,m2,c3,c4,Y, aE,an,setCells,bB,Perm.make,Perm.pick,ptr,<-C,aG,ao,O,<-G,cj,cd,-ei,-xr];refine⟨⟨λx e=>.inl (.inl (f1 x e)),λx e=>.inl (.inl (f1 x e)),λx e=>.inl (.inl (f2 x e)),λx e=>.inl (.inl (f2 x e))⟩,?_⟩;have e:L.next=z+19:=by rw[C];exact aR
 have x:K pm l L:=by rw[C];exact aF.fill aB (by omega) (Y 17 (by decide) (by decide)) (by omega) _
 have ab:K pm l Z:=by rw[G];exact aF.put x (by omega) ao (by simp) _
 have l:Z.next=z+19:=by rw[G];exact e
 have aH:oV H v (z+17) (z+7) (z+15):=⟨by omega,by omega,by omega,by omega⟩;obtain⟨u,aJ⟩:∃e:Nat->dy,∀j,j<g.a.length->g.a[j]? = some (e j):=⟨λj=>g.a.getD j ⟨[],[],[],[],false⟩,λj p=>by simp[p]⟩;obtain⟨d,aK⟩:∃e:Nat->bQ,∀j,j<g.rows.length->g.rows[j]? = some (e j):=⟨λj=>g.rows.getD j ⟨[],0,[],[],[]⟩,λj p=>by simp[p]⟩;obtain⟨w,aL⟩:∃w:Nat->Value,∀j,j<f->(bx S (j*5) 5=some ((d j).cells (w j))/\eg H (w j) (d j).j.length 2 λi D=>∃c,(d j).j[i]? = some c/\D=c.cells):=by
  have:∀j,∃ad,j<f->(bx S (j*5) 5=some ((d j).cells ad)/\eg H ad (d j).j.length 2 λi D=>∃c,(d j).j[i]? = some c/\D=c.cells):=λj=>by
   by_cases p:j<f
   ·obtain⟨D,a,r,bP,t,rfl,b⟩:=(aj (by omega)).2 j p;rw[aK j (by omega)]at t;cases t;exact⟨bP,λ_=>⟨a,b⟩⟩
   ·exact⟨.bool true,λh=>absurd h p⟩
  exact⟨λj=>(this j).choose,λj=>(this j).choose_spec⟩
 have s0:eo pm H Z v (z+17) (z+7) (z+15) q f (λj=>(u j).cells) (λj=>(d j).cells (w j)):=by
  refine⟨K.trans Q ab,ab.some s aQ,by rw[G];exact b1,λh=>⟨lc,?_,c0.of (ag h).1 λj p=>?_⟩,λh=>⟨S,?_,c0.of (aj h).1 λj p=>(aL j p).1⟩⟩
  ·rw[G,a7 (by omega),C,a7 (by omega),F,o9 (by omega),J];exact rF h
  ·obtain⟨D,a,c,t,rfl⟩:=(ag h).2 j p;rw[aJ j (by omega)]at t;cases t;exact a
  ·rw[G,a7 (by omega),C,a7 (by omega),F];exact rF h
 have e:=ab.h;have e:K pm H Z:=K.trans Q ab;clear J F C G T R c1 c2 c3 c4 X Y aG ao d1 d2 d3 d4 d5 d6 d7 d8 f1 f2 aC aD aq;obtain⟨_,aM,_⟩:=k9 (z+7) q;obtain⟨_,aN,_⟩:=k9 (z+15) f;have e:=s0.x;rw[aM,aN]at e;simp[e,-Ba,-Bf]
 refine eE (σ:=Nat->Value) f (λ_ _=>[(2,.pointer (some ⟨v,0,none⟩)),(3,.pointer (some ⟨z+17,0,none⟩))])
  (λi a aa=>eo pm H aa v (z+17) (z+7) (z+15) q f (λj=>(u j).cells) (λj=>if j<i then(d j).cut.cells (a j) else(d j).cells (w j))/\∀j,j<i->gB aa (a j) (d j).cut.j/\fM (z+16) (a j))
  w (by decide) (by omega) (by simp) ⟨by simpa using s0,λj p=>absurd p (hz _)⟩ (by simp) ?_ ?_
 ·rintro i a _ c ⟨b,k⟩;refine L8 hX y aH b (by omega) c (r:=d i) (bP:=w i) (by simp) (aL i c).2 ?_;intro _ _ c e n o ai H;have l:=b.k.h.lt b.x;refine⟨λj=>if j=i then c else a j,e,?_,λj p=>?_⟩
  ·have m:(λj=>if j=i then(d i).cut.cells c else if j<i then(d j).cut.cells (a j) else(d j).cells (w j))=(λj=>if j<i+1 then(d j).cut.cells (if j=i then c else a j) else(d j).cells (w j)):=by
    funext j;by_cases m:j=i
    ·subst m;simp
    ·by_cases t:j<i
     ·simp[m,t,show j<i+1 by omega]
     ·simp[m,t,show ¬j<i+1 by omega]
   rw[<-m];exact n
  ·by_cases m:j=i
   ·subst m;simp only[if_true];exact⟨o,ai.mono (by omega)⟩
   ·simp only[m,if_false];obtain⟨b,a⟩:=k j (by omega);exact⟨c8.ne b a (by omega) H,a⟩
 ·rintro n _ ⟨e,s⟩;have l:=e.x;rw[aM,aN]at l;simp[l,-Bb,-Bc]
  refine eE (σ:=Unit) q (λ_ _=>[(2,.pointer (some ⟨v,0,none⟩)),(3,.pointer (some ⟨z+17,0,none⟩))])
   (λi _ aa=>eo pm H aa v (z+17) (z+7) (z+15) q f (λj=>if j<i then(u j).cut.cells else(u j).cells) (λj=>if j<f then(d j).cut.cells (n j) else(d j).cells (w j))/\∀j,j<f->gB aa (n j) (d j).cut.j/\fM (z+16) (n j))
   () (by decide) (by omega) (by simp) ⟨by simpa using e,s⟩ (by simp) ?_ ?_
  ·rintro i _ _ a ⟨b,k⟩;refine L6 hX y aH b (by omega) a (c:=u i) (by simp) ?_;intro _ _ a o r;refine⟨(),a,?_,λj p=>?_⟩
   ·have m:(λj=>if j=i then(u i).cut.cells else if j<i then(u j).cut.cells else(u j).cells)=(λj=>if j<i+1 then(u j).cut.cells else(u j).cells):=by
     funext j;by_cases m:j=i
     ·subst m;simp
     ·by_cases t:j<i
      ·simp[m,t,show j<i+1 by omega]
      ·simp[m,t,show ¬j<i+1 by omega]
    rw[<-m];exact o
   ·obtain⟨b,a⟩:=k j p;exact⟨c8.ne b a (by omega) r,a⟩
  ·rintro _ HB ⟨a,r⟩;have xB:=a.x;have rB:=a.r;have e:=a.k.h;have an:∀b i,c6 (aP b i)=true:=λb i=>by unfold aP;split<;>rfl
   have aE:∀b i,(aP b i).cells=#[aP b i]:=λb i=>by unfold aP;split<;>rfl
   have aa:pm.may v=true:=y.may (by omega);obtain⟨o,k⟩:∃A,A=HB.put v (.cells [aP (z+7) q,aP (z+15) f] (.t tyU1)):=⟨_,rfl⟩;simp[xB,rB,bx,bB, an,setCells,aa,<-k];refine hQ _ _ _ ?_;have e:o.get v=some (.cells [aP (z+7) q,aP (z+15) f] (.t tyU1)):=by rw[k];exact b1
   have l:K pm H o:=by rw[k];exact aF.put a.k (by omega) rB (by simp) _
   simp[dG,e,bx,bB];refine⟨l,?_⟩;have ah:g.cut.a.length=q:=by simp[aI.cut];omega
   have aT:g.cut.rows.length=f:=by simp[aI.cut];omega
   have aU:0<q->∃L,o.get (z+7)=some (.cells L (.n 5))/\c0 L 5 q (λj=>if j<q then(u j).cut.cells else(u j).cells):=λh=>(a.c h).imp λL h=>⟨by rw[k,a7 (by omega)];exact h.1,h.2⟩;have aV:0<f->∃L,o.get (z+15)=some (.cells L (.n 5))/\c0 L 5 f (λj=>if j<f then(d j).cut.cells (n j) else(d j).cells (w j)):=λh=>(a.w h).imp λL h=>⟨by rw[k,a7 (by omega)];exact h.1,h.2⟩;refine⟨_,_,rfl,?_,?_,fM.aP (by omega),fM.aP (by omega)⟩
   ·unfold gC;rw[ah];refine c0.yA aU λi a=>⟨(u i).cut,?_,by simp[a]⟩;simp[aI.cut, show i<6 by omega,aJ i (by omega)]
   ·unfold mu;rw[aT];refine c0.yA aV λi a=>⟨(d i).cut,n i,?_,by simp[a],?_,(r i a).2.mono (by omega)⟩
    ·simp[aI.cut, show i<6 by omega,aK i (by omega)]
    ·exact c8.ne (r i a).1 (r i a).2 (b:=v) (by omega) λc ax M h=>by rw[k,a7 M];exact h
def dk(H:ad)(ak:Nat)(v:Value)(k w:Nat)(P:Nat->List Value->Prop):Prop:=
 ∃a b,v=.slice a k b/\(a=none->k=0)/\∀d,a=some d->∃b a y c,d=⟨b,a,none⟩/\ak<=b/\H.get b=some y/\rowOf y=some c/\a+k*w<=c.length/\∀i,i<k->∃b,bx c (a+i*w) w=some b/\P i b
theorem dk.aP{ak k w:Nat}{v:Value}{P:Nat->List Value->Prop}(h:dk H ak v k w P):c8 H v k w P:=by
 obtain⟨a,b,rfl,c,d⟩:=h;refine⟨a,b,rfl,λi e=>?_⟩
 cases a with
 | none=>have:=c rfl;omega
 | some _=>
   obtain⟨f,g,y,h,rfl,_,j,k,_,l⟩:=d _ rfl;obtain⟨a,m,n⟩:=l i e;exact⟨f,g,y,h,a,rfl,j,k,m,n⟩
theorem dk.imp{ak k w:Nat}{v:Value}{P a:Nat->List Value->Prop}(h:dk H ak v k w P)(e:Ext H aa)(b:∀i cs,i<k->P i cs->a i cs):dk aa ak v k w a:=by
 obtain⟨c,d,rfl,f,g⟩:=h;refine⟨c,d,rfl,f,λa c=>?_⟩;obtain⟨d,f,y,j,k,l,m,n,o,p⟩:=g a c;exact⟨d,f,y,j,k,l,e _ _ m,n,o,λi a=>(p i a).imp λcs q=>⟨q.1,b i cs a q.2⟩⟩
theorem dk.qt{ak k w:Nat}{v:Value}{P a:Nat->List Value->Prop}(h:dk H ak v k w P)(e:∀b y,ak<=b->H.get b=some y->aa.get b=some y)(c:∀i cs,i<k->P i cs->a i cs):dk aa ak v k w a:=by
 obtain⟨d,f,rfl,g,j⟩:=h;refine⟨d,f,rfl,g,λd f=>?_⟩;obtain⟨b,g,y,k,l,a,m,n,o,p⟩:=j d f;exact⟨b,g,y,k,l,a,e _ _ a m,n,o,λi a=>(p i a).imp λcs q=>⟨q.1,c i cs a q.2⟩⟩
theorem dk.mono{ak cf k w:Nat}{v:Value}{P a:Nat->List Value->Prop}(h:dk H ak v k w P)(b:cf<=ak)(c:∀i cs,i<k->P i cs->a i cs):dk H cf v k w a:=by
 obtain⟨d,e,rfl,f,g⟩:=h;refine⟨d,e,rfl,f,λa d=>?_⟩;obtain⟨e,f,y,j,k,l,m,n,o,p⟩:=g a d;exact⟨e,f,y,j,k,aY b l,m,n,o,λi a=>(p i a).imp λcs q=>⟨q.1,c i cs a q.2⟩⟩
theorem dk.put{ak k w b:Nat}{v:Value}{P a:Nat->List Value->Prop}(h:dk H ak v k w P)(g:b<ak)(x:bk)(c:∀i cs,i<k->P i cs->a i cs):dk (H.put b x) ak v k w a:=by
 obtain⟨b,d,rfl,e,f⟩:=h;refine⟨b,d,rfl,e,λa b=>?_⟩;obtain⟨d,e,y,g,j,k,l,m,n,o⟩:=f a b;exact⟨d,e,y,g,j,k,by rw[a7 (by omega)];exact l,m,n,λi a=>(o i a).imp λcs q=>⟨q.1,c i cs a q.2⟩⟩
theorem dk.BT{ak k w:Nat}{v:Value}{P:Nat->List Value->Prop}(h:c8 H v k w P)(b:fM ak v):dk H ak v k w P:=by
 obtain⟨i,j,rfl,a⟩:=h.ex;refine⟨i,j,rfl,λe=>?_,λl e=>?_⟩
 ·subst e;apply lW;intro _;obtain⟨_,_,_,_,_,e,_⟩:=a 0 (by omega);cases e
 ·subst e;have h:ak<=l.block:=b.1;have i:0<k:=b.2;obtain⟨m,n,y,o,_,p,c,d,q,_⟩:=a (k-1) (by omega);cases p;refine⟨m,n,y,o,rfl,h,c,d,?_,λi b=>?_⟩
  ·have:=(pg q).1;have e:(k-1)*w+w=k*w:=by
    rw[<-hS];congr 1;omega
   omega
  ·obtain⟨_,_,_,_,k,r,f,g,s,t⟩:=a i b;cases r;rw[c]at f;cases f;rw[d]at g;cases g;exact⟨k,s,t⟩
def dR(H:ad)(ah aJ:Nat)(v:Value)(k w:Nat)(f:Nat->List Value):Prop:=
 v=.slice none 0 0/\k=0∨∃b L,ah<=b/\b<aJ/\v=.slice (some ⟨b,0,none⟩) k k/\H.get b=some (.cells L (.n w))/\c0 L w k f
theorem dR.form{ah aJ k w:Nat}{v:Value}{f:Nat->List Value}(h:dR H ah aJ v k w f):∃a,v=.slice a k k:=by
 rcases h with⟨rfl,rfl⟩ | ⟨b,L,_,_,rfl,_⟩
 ·exact⟨_,rfl⟩
 ·exact⟨_,rfl⟩
theorem dR.one{ah aJ k w:Nat}{v:Value}{f:Nat->List Value}(h:dR H ah aJ v k w f):c6 v=true/\v.cells=#[v]:=by
 obtain⟨_,rfl⟩:=h.form;exact⟨rfl,rfl⟩
theorem dR.pos{ah aJ k w:Nat}{v:Value}{f:Nat->List Value}(h:dR H ah aJ v k w f)(a:0<k):∃b L,ah<=b/\b<aJ/\v=.slice (some ⟨b,0,none⟩) k k/\H.get b=some (.cells L (.n w))/\c0 L w k f:=by
 rcases h with⟨_,rfl⟩ | h
 ·omega
 ·exact h
theorem dR.ext{ah aJ k w:Nat}{v:Value}{f:Nat->List Value}(h:dR H ah aJ v k w f)(e:Ext H aa):dR aa ah aJ v k w f:=
 h.imp id λ⟨b,L,a,c,d,f,g⟩=>⟨b,L,a,c,d,e _ _ f,g⟩
theorem dR.mono{ah aJ BI AX k w:Nat}{v:Value}{f:Nat->List Value}(h:dR H ah aJ v k w f)(a:BI<=ah)(b:aJ<=AX):dR H BI AX v k w f:=
 h.imp id λ⟨c,L,d,e,f⟩=>⟨c,L,aY a d,eC e b,f⟩
theorem dR.put{ah aJ k w c:Nat}{v:Value}{f:Nat->List Value}(h:dR H ah aJ v k w f)(a:c<ah∨aJ<=c)(x:bk):dR (H.put c x) ah aJ v k w f:=
 h.imp id λ⟨b,L,a,c,d,e,f⟩=>⟨b,L,a,c,d,by rw[a7 (by omega)];exact e,f⟩
theorem dR.e{ah aJ k w:Nat}{v:Value}{f:Nat->List Value}{P:Nat->List Value->Prop}(h:dR H ah aJ v k w f)(a:∀i,i<k->P i (f i)):dk H ah v k w P:=by
 rcases h with⟨rfl,rfl⟩ | ⟨b,L,bX,cv,rfl,dw,gZ⟩
 ·exact⟨none,0,rfl,λ_=>rfl,λ_ h=>(by cases h)⟩
 ·refine⟨_,_,rfl,λh=>(by cases h),λ_ h=>?_⟩;cases h;exact⟨b,0,_,L,rfl,bX,dw,rfl,by rw[gZ.1];omega,λi aJ=>⟨f i,by rw[Nat.zero_add];exact gZ.row aJ,a i aJ⟩⟩
theorem dR.congr{ah aJ k w:Nat}{v:Value}{f lC:Nat->List Value}(h:dR H ah aJ v k w f)(c:∀j,j<k->lC j=f j):dR H ah aJ v k w lC:=
 h.imp id λ⟨b,L,d,e,f,g,a⟩=>⟨b,L,d,e,f,g,a.1,λj b=>by rw[c j b];exact a.2 j b⟩
def wG(w cc:Nat):aZ:=⟨8,(.seq (.bj [o 2 (.cM (.c (.slice none 0 0)))]) (.seq (.seq (.bj [m 3 0,o 4 (.bin .eql (.nil .fb) (.t 3) (.c (.slice none 0 0)))]) (.cond (.t 4) (.seq (.bj [o 2 (.cM (.c (.slice none 0 0)))]) .ret) .skip)) (.seq (.bj [o 5 (.buildSlice [] w 0 []),m 6 0,o 7 (.append w cc (.t 5) (.t 6)),m 2 7]) .ret))),[.slot 2]⟩
theorem vO{b w cc:Nat}(o:Has X b (wG w cc))(g:bs pm H){v:Value}{k ak:Nat}{P:Nat->List Value->Prop}(c:dk H ak v k w P)(q:1<=w)(s:k<=1000)(t:cc<=200)(u:∀i cs,P i cs->cs.all c6=true):
 Call X pm b [v] H λr aa=>K pm H aa/\∃f,dR aa H.next aa.next r k w f/\∀i,i<k->P i (f i):=by
 refine Call.has o rfl ?_;obtain⟨x,_,rfl,y,z⟩:=c
 cases x with
 | none=>
   obtain rfl:k=0:=y rfl;simp[wG];exact⟨K.refl g,λ_=>[],.inl ⟨rfl,rfl⟩⟩
 | some _=>
   obtain⟨_,off,_,row,rfl,_,r,h,_,j⟩:=z _ rfl;have a:=K.new g (.cells [] (.n w));have b:=a.h;have d:(H.new (.cells [] (.n w))).get H.next=some (.cells [] (.n w)):=b4;have m:=a.some g r;have A:pm.may H.next=true:=g.may (bg _);by_cases e:k=0
   ·subst e;have b:bx row off (0*w)=some []:=by rw[pf (by omega)];simp
    simp[wG,g.make,g.pick,fill,m,h,eN]at b|-;simp[b];exact⟨a,λ_=>[],.inr ⟨_,[],bg _,nd _,rfl,d,by simp,λ_ b=>absurd b (hz _)⟩⟩
   ·obtain⟨l,B,o,r⟩:=AS (n:=k) (row:=row) (off:=off) (w:=w) (by omega) (λi b=>(j i b).imp λ_ x=>x.1);have x:∀i,i<k->∃cs,bx l (i*w) w=some cs/\P i cs:=λi b=>by
     obtain⟨cs,f,g⟩:=j i b;exact⟨cs,by rw[r i b,f],g⟩
    obtain⟨f,i,n⟩:=c0.ex o x;have C:l.all c6=true:=by
     rw[eD];intro v c;obtain⟨p,f,rfl⟩:=u5 c;have c:p<k*w:=by omega
     have b:p/w<k:=ox (by rw[dW];exact c);have g:=eD.1 (u _ _ (n _ b));have j:p%w<w:=kY _ (by omega);have c:=(i.2 _ b).2 _ j;have e:p/w*w+p%w=p:=by rw[dW];exact qM p w
     rw[e,eu f]at c;exact g _ (eB c.symm)
    have b:k*cc<=17179869184:=aY (gK s t) (by decide);have c:K pm H (((H.new (.cells [] (.n w))).put H.next .dead).new (.cells l (.n w))):=aF.new (aF.put a (bg _) d (by simp) _) (oo _) _;have a:bx [] 0 0=some []:=rfl;simp[wG,g.make,g.pick,fill,m,h,B,eN,e,b,q,d,A,C,a,show k<=17179869184 by omega];exact⟨c,f,.inr ⟨_,l,oo _,nd _,rfl,b4,i⟩,n⟩
end Go.Dam.C
namespace Go.Dam.C
open Go Go.Dam
variable{X:ar}{pm:Perm}{H aa bL aj:ad}{n:Nat}
structure vR(X:ar):Prop extends oU X where
 pI:Has X F.pI C.pI
 pJ:Has X F.pJ C.pJ
 nk:Has X F.nk C.nk
 jS:Has X F.jS C.jS
abbrev ga:Nat:=T.NR
abbrev yP:Nat:=T.NS
def jm(l:List dq)(i:Nat)(cs:List Value):Prop:=∃c,l[i]? = some c/\cs=c.cells
def y4(l:List dy)(i:Nat)(cs:List Value):Prop:=∃c,l[i]? = some c/\cs=c.cells
def MF(H:ad)(ak:Nat)(l:List bQ)(i:Nat)(cs:List Value):Prop:=∃r a,l[i]? = some r/\cs=r.cells a/\dk H ak a r.j.length 2 (jm r.j)
def h2(H:ad)(ak:Nat)(v:Value)(l:List bQ):Prop:=dk H ak v l.length 5 (MF H ak l)
def fC(H:ad)(ak:Nat)(v:Value)(ab:aI):Prop:=∃a b,v=.agg #[a,b]/\dk H ak a ab.a.length 5 (y4 ab.a)/\h2 H ak b ab.rows
theorem h2.ext{ak:Nat}{v:Value}{l:List bQ}(h:h2 H ak v l)(e:Ext H aa):h2 aa ak v l:=dk.imp h e λ_ _ _ ⟨r,a,b,c,d⟩=>⟨r,a,b,c,d.imp e λ_ _ _ h=>h⟩
theorem h2.jY{ak:Nat}{v:Value}{l:List bQ}(h:h2 H ak v l)(e:∀b y,ak<=b->H.get b=some y->aa.get b=some y):h2 aa ak v l:=dk.qt h e λ_ _ _ ⟨r,a,c,d,f⟩=>⟨r,a,c,d,f.qt e λ_ _ _ h=>h⟩
theorem h2.mono{ak cf:Nat}{v:Value}{l:List bQ}(h:h2 H ak v l)(a:cf<=ak):h2 H cf v l:=dk.mono h a λ_ _ _ ⟨r,b,c,d,e⟩=>⟨r,b,c,d,e.mono a λ_ _ _ h=>h⟩
theorem h2.put{ak b:Nat}{v:Value}{l:List bQ}(h:h2 H ak v l)(a:b<ak)(x:bk):h2 (H.put b x) ak v l:=dk.put h a x λ_ _ _ ⟨r,c,d,e,f⟩=>⟨r,c,d,e,f.put a x λ_ _ _ h=>h⟩
theorem h2.rows{ak:Nat}{v:Value}{l:List bQ}(h:h2 H ak v l):iM H v l:=c8.imp (dk.aP h) (λ_ _ e=>e) λ_ _ _ ⟨r,a,b,c,d⟩=>⟨r,a,b,c,d.aP⟩
theorem fC.ext{ak:Nat}{v:Value}{ab:aI}(h:fC H ak v ab)(e:Ext H aa):fC aa ak v ab:=by
 obtain⟨a,b,rfl,c,d⟩:=h;exact⟨a,b,rfl,c.imp e λ_ _ _ h=>h,d.ext e⟩
theorem fC.jY{ak:Nat}{v:Value}{ab:aI}(h:fC H ak v ab)(e:∀b y,ak<=b->H.get b=some y->aa.get b=some y):fC aa ak v ab:=by
 obtain⟨a,b,rfl,c,d⟩:=h;exact⟨a,b,rfl,c.qt e λ_ _ _ h=>h,d.jY e⟩
theorem fC.mono{ak cf:Nat}{v:Value}{ab:aI}(h:fC H ak v ab)(a:cf<=ak):fC H cf v ab:=by
 obtain⟨b,c,rfl,d,e⟩:=h;exact⟨b,c,rfl,d.mono a λ_ _ _ h=>h,e.mono a⟩
theorem fC.put{ak b:Nat}{v:Value}{ab:aI}(h:fC H ak v ab)(a:b<ak)(x:bk):fC (H.put b x) ak v ab:=by
 obtain⟨b,c,rfl,d,e⟩:=h;exact⟨b,c,rfl,d.put a x λ_ _ _ h=>h,e.put a x⟩
theorem fC.ab{ak:Nat}{v:Value}{ab:aI}(h:fC H ak v ab):iL H v ab:=by
 obtain⟨a,b,rfl,c,d⟩:=h;exact⟨a,b,rfl,c.aP,d.rows⟩
theorem hC.e{ak:Nat}{v:Value}{ab:aI}(h:hC H ak v ab):fC H ak v ab:=by
 obtain⟨a,b,rfl,c,d,e,f⟩:=h;exact⟨a,b,rfl,.BT c e,dk.mono (.BT d f) (bg _) λ_ _ _ ⟨r,a,b,c,d,e⟩=>⟨r,a,b,c,.BT d e⟩⟩
def hD(H:ad)(ak:Nat)(r:Value)(ab:aI):Prop:=∃(c d:Value) (a b:Nat) (e:Nat->Value),r=.agg #[c,d]/\ak<=a/\a<=b/\dR H ak a c ab.a.length 5 (λj=>(ab.af j).cells)/\dR H a b d ab.rows.length 5 (λj=>(ab.row j).cells (e j))/\∀j,j<ab.rows.length->dk H b (e j) (ab.row j).j.length 2 (jm (ab.row j).j)
theorem hD.gp{ak:Nat}{r:Value}{ab:aI}(h:hD H ak r ab):∃a b cf,r=.agg #[a,b]/\ak<=cf/\dR H ak cf a ab.a.length 5 (λj=>(ab.af j).cells)/\h2 H cf b ab.rows:=by
 obtain⟨a,b,cf,_,_,rfl,d,e,f,g,i⟩:=h;exact⟨a,b,cf,rfl,d,f,g.e λj c=>⟨_,_,aI.rowAt c,rfl,(i j c).mono e λ_ _ _ h=>h⟩⟩
theorem hD.e{ak:Nat}{r:Value}{ab:aI}(h:hD H ak r ab):fC H ak r ab:=by
 obtain⟨a,b,_,rfl,c,d,e⟩:=h.gp;exact⟨a,b,rfl,d.e λ_ a=>⟨_,aI.jv a,rfl⟩,e.mono c⟩
structure lb(pm:Perm)(aj H:ad)(bl cb ak cf fR:Nat)(mc jJ:Value)(ab:aI)(cB:Nat->List Value):Prop where
 k:K pm aj H
 r:H.get bl=some (.cells [.slice none 0 0,.slice none 0 0] (.t ga))
 x:H.get cb=some (.cells [mc,jJ] (.t ga))
 c:dR H ak cf mc ab.a.length 5 λj=>(ab.af j).cells
 w:dR H cf fR jJ ab.rows.length 5 cB
 hc:fR<=H.next
structure y5(aj:ad)(bl cb ak cf fR:Nat):Prop where
 bX:aj.next<=bl
 cv:bl<cb
 cF:cb<ak
 dw:ak<=cf
 gZ:cf<=fR
variable{bl cb ak cf fR:Nat}{mc jJ:Value}{ab:aI}{cB:Nat->List Value}
theorem lb.up(s:lb pm aj H bl cb ak cf fR mc jJ ab cB)(u:K pm H aa):lb pm aj aa bl cb ak cf fR mc jJ ab cB where
 k:=K.trans s.k u
 r:=u.some s.k.h s.r
 x:=u.some s.k.h s.x
 c:=s.c.ext (u.ext s.k.h)
 w:=s.w.ext (u.ext s.k.h)
 hc:=aY s.hc u.next
theorem lb.row(s:lb pm aj H bl cb ak cf fR mc jJ ab cB)(o:y5 aj bl cb ak cf fR){b:Nat->List Value}{i k a:Nat}{v:Value}(aJ:i<ab.rows.length)(h:k<5)(l:b i=(cB i).set k v)(m:∀j,j<ab.rows.length->j≠i->b j=cB j){L:List Value}(c:jJ=.slice (some ⟨a,0,none⟩) ab.rows.length ab.rows.length)(d:H.get a=some (.cells L (.n 5))):
 lb pm aj (H.put a (.cells (L.set (i*5+k) v) (.n 5))) bl cb ak cf fR mc jJ ab b:=by
 obtain⟨_,_,e,j,f,g,n⟩:=s.w.pos (by omega);rw[c]at f;cases f;rw[d]at g;cases g;have b:=o.bX;have b:=o.cv;have b:=o.cF;have b:=o.dw;exact⟨aF.put s.k (by omega) d (by simp) _,by rw[a7 (by omega)];exact s.r,by rw[a7 (by omega)];exact s.x,s.c.put (.inr e) _,.inr ⟨a,_,e,j,c,b1,n.set aJ h v l m⟩,s.hc⟩
theorem ND(Y:vR X)(M:bs pm aj)(d:y5 aj bl cb ak cf fR)(s:lb pm aj H bl cb ak cf fR mc jJ ab cB){i m0:Nat}(aJ:i<ab.rows.length){r:bQ}{bP:Value}(N:cB i=r.cells bP)
 (O:dk aj m0 bP r.j.length 2 (jm r.j)) (Z:r.j.length<=1000) {R:b5}
 (hR:∀aN aa A,Sub [(16,.int .i64 (i:Int)),(15,.int .i64 (ab.rows.length:Int)),(2,.pointer (some ⟨bl,0,none⟩)),(3,.pointer (some ⟨cb,0,none⟩)),(14,jJ)] aN->lb pm aj aa bl cb ak cf fR mc jJ ab (λj=>if j=i then r.cells A else cB j)->
  dk aa fR A r.j.length 2 (jm r.j)->(∀b y,fR<=b->H.get b=some y->aa.get b=some y)->R .normal aN aa):
 wp X pm (.code (.seq (.bj [m 18 16,o 19 (.iW 5 (.t 14) (.t 16)),o 20 (.load true 5 (.t 19)),o 5 (.alloc yP [(.string ⟨#[]⟩),(.int .i64 (.ofNat 0)),(.slice none 0 0),(.string ⟨#[]⟩),(.string ⟨#[]⟩)]),m 4 18,⟨none,none,.store 5 (.t 5) (.t 20)⟩]) C.An)) [(17,.bool true),(16,.int .i64 (i:Int)),(15,.int .i64 (ab.rows.length:Int)),(2,.pointer (some ⟨bl,0,none⟩)),(3,.pointer (some ⟨cb,0,none⟩)),(14,jJ)] H [] R:=by
 have g:=s.k.h;have F:=d.bX;have F:=d.cv;have F:=d.cF;have F:=d.dw;have F:=d.gZ;have F:=g.lt s.x;have F:=s.hc;obtain⟨l,L,_,_,n,P,Q⟩:=s.w.pos (by omega);have e5:bx L (i*5) 5=some [aA r.name,.int .i64 r.kind,bP,aA r.rhs,aA r.kp]:=by rw[Q.row aJ,N];rfl
 obtain⟨B,D,f,_⟩:=id O;subst f;obtain⟨q,p⟩:∃q,q=H.next:=⟨_,rfl⟩;obtain⟨a,t⟩:∃E,E=(H.new (.cells [.string ⟨#[]⟩,.int .i64 0,.slice none 0 0,.string ⟨#[]⟩,.string ⟨#[]⟩] (.t yP))).put q (.cells [aA r.name,.int .i64 r.kind,.slice B r.j.length D,aA r.rhs,aA r.kp] (.t yP)):=⟨_,rfl⟩;have e:K pm H a:=by rw[t,p];exact ic g _ _ (by simp)
 have c:=e.h;have ad:a.get q=some (.cells [aA r.name,.int .i64 r.kind,.slice B r.j.length D,aA r.rhs,aA r.kp] (.t yP)):=by rw[t];exact b1
 have ae:∀F,(H.new F).get q=some F:=λF=>by rw[p];exact b4
 have af:pm.may q=true:=g.may (by omega);have F:a.next=q+1:=by rw[t,p];rfl
 have G:=e.some g s.x;have ag:=e.some g P;obtain⟨z,u⟩:∃z,z=a.next:=⟨_,rfl⟩;have I:K pm a (a.up 9):=(K.refl c).up 9;have S:=λj=>(by rw[u];exact c.none j:(a.up 9).get (z+j)=none);have ai:=(by rw[u];exact c.J:(a.up 9).get z=none);rw[n]at G;simp[n,P,aJ,e5,g.pick,g.make,ptr,bB,<-p,ae,af,setCells,<-t];refine cy.of c.ah rfl ?_;rw[<-u];simp[b7,S,ai,G,ad];refine eM I.h (az:=[.slice B r.j.length D]) (by simp[S]) (by simp) (by simp) rfl (λ_ p=>vO (w:=2) (cc:=24) Y.nk p (O.imp ((K.trans s.k (K.trans e I)).ext M) λ_ _ _ h=>h) (by decide) Z (by decide) (λi _ ⟨_,_,f⟩=>by rw[f];rfl)) ?_;rintro A J p ⟨al,T,hf⟩;have t:=p.h;have v:K pm a J:=K.trans I p;have t:=v.some c G;have U:=v.some c ag;have V:=p.res c;obtain⟨k,f⟩:=T.form;subst f;have sc:setCells L (i*5+2) [.slice k r.j.length r.j.length]=some (L.set (i*5+2) (.slice k r.j.length r.j.length)):=setCells_one (Q.lt aJ (show 2<5 by decide));obtain⟨W,x⟩:∃E,E=J.put l (.cells (L.set (i*5+2) (.slice k r.j.length r.j.length)) (.n 5)):=⟨_,rfl⟩;have c:=λq=>eG (ah:=pm.ah) (ok:=pm.ok) (o:=q) (b:=l) (by have:=M.ah;omega);have f:l<z:=by omega
 have p:cb<z:=by omega
 have t:q<z:=by omega
 rw[<-u]at V;simp[V,aJ,sc,U,c,<-x,cj,cd,jT,dM,ed,f,p,t];have c:lb pm aj W bl cb ak cf fR mc jJ ab (λj=>if j=i then r.cells (.slice k r.j.length r.j.length) else cB j):=by
  rw[x];exact(s.up (K.trans e v)).row d aJ (by decide) (by simp[N,bQ.cells]) (λj _ h=>by simp[h]) n U
 refine hR _ _ _ (by simp[n]) c ?_ λb y _ h=>?_
 ·have b:dR W (a.up 9).next J.next (.slice k r.j.length r.j.length) r.j.length 2 al:=by
   rw[x];exact T.put (.inl (by show l<a.next+9;omega)) _
  exact(b.e hf).mono (by show fR<=a.next+9;omega) λ_ _ _ h=>h
 ·rw[x,a7 (by omega)];exact(K.trans e v).some g h
theorem tX(D:vR X)(g:bs pm H){v:Value}{ab:aI}{ak:Nat}(R:fC H ak v ab)(hc:ab.a.length<=1000)(hr:ab.rows.length<=1000)(au:∀i,i<ab.rows.length->(ab.row i).j.length<=1000):
 Call X pm F.jS [v] H λr aa=>K pm H aa/\hD aa H.next r ab:=by
 refine Call.P D.jS rfl λ_ hQ=>?_;obtain⟨_,_,rfl,Y,Z⟩:=R;obtain⟨L,M,q,_⟩:=id Y;obtain⟨N,O,k,_⟩:=id Z;subst q k;obtain⟨E,P⟩:∃b,b=H.next:=⟨_,rfl⟩;obtain⟨l,G⟩:∃l,l=H.new (.cells [.slice L ab.a.length M,.slice N ab.rows.length O] (.t ga)):=⟨_,rfl⟩;have k1:K pm H l:=by rw[G];exact K.new g _
 have g1:=k1.h;have av:l.get E=some (.cells [.slice L ab.a.length M,.slice N ab.rows.length O] (.t ga)):=by rw[G,P];exact b4
 obtain⟨bl,Q⟩:∃b,b=l.next:=⟨_,rfl⟩;obtain⟨d,I⟩:∃d,d=l.new (.cells [.slice none 0 0,.slice none 0 0] (.t ga)):=⟨_,rfl⟩;have R:K pm l d:=by rw[I];exact K.new g1 _
 have s:=R.h;have aw:d.get bl=some (.cells [.slice none 0 0,.slice none 0 0] (.t ga)):=by rw[I,Q];exact b4
 have ad:=R.some g1 av;have ae:=k1.trans R;have cf:l.next=E+1:=by rw[G,P];rfl
 have fR:d.next=bl+1:=by rw[I,Q];rfl
 obtain⟨z,J⟩:∃z,z=d.next:=⟨_,rfl⟩;have kU:K pm d (d.up 9):=(K.refl s).up 9;have S:=λj=>(by rw[J];exact s.none j:(d.up 9).get (z+j)=none);have ax:=(by rw[J];exact s.J:(d.up 9).get z=none);obtain⟨t,y⟩:∃A,A=(d.up 9).put (z+4) (.cells [.slice none 0 0,.slice none 0 0] (.t ga)):=⟨_,rfl⟩;have B:K pm d t:=by rw[y];exact aF.fill kU (by omega) (S 4) (by show z+4<d.next+9;omega) _
 have d:t.next=z+9:=by rw[y,J];rfl
 have af:∀j,j≠4->t.get (z+j)=none:=λj a=>by rw[y,a7 (by omega)];exact S j
 have ay:t.get (z+4)=some (.cells [.slice none 0 0,.slice none 0 0] (.t ga)):=by rw[y];exact b1
 have ag:=B.h;have d:=B.some s ad;simp[g.pick,g.make,ptr,<-P,<-G,  <-Q,<-I,-rL];refine cy.of s.ah rfl ?_;rw[<-J];simp[b7,S,ax,ad,Perm.make,Perm.pick,ptr,<-y,-rL];refine eM ag (az:=[.slice L ab.a.length M]) (by simp[af]) (by simp) (by simp) rfl (λaA T=>vO (w:=5) (cc:=72) D.pI T (Y.imp ((ae.trans B).ext g) λ_ _ _ h=>h) (by decide) hc (by decide) (λi cs ⟨c,_,e⟩=>by rw[e];rfl)) ?_;rintro mc u C ⟨_,c1,aB⟩;have g3:=C.h;have ai:=K.trans ae (K.trans B C);have aC:=C.next;have aj:∀j,j<9->j≠4->u.get (z+j)=none:=λj a U=>(C.get _ (by omega)).trans (af j U);simp[-rL];refine eM g3 (az:=[.slice N ab.rows.length O]) (by simp[aj]) (by simp) (by simp) rfl (λaA T=>vO (w:=5) (cc:=80) D.pJ T (Z.imp (ai.ext g) λ_ _ _ h=>h) (by decide) hr (by decide) (λi cs ⟨r,bP,_,e,_,_,V,_⟩=>by rw[e,V];rfl)) ?_;rintro jJ m x ⟨W,c2,aD⟩;have d:=x.h;have al:=K.trans C x;have aE:=K.trans ai x;have an:=x.next;have aG:∀j,j<9->j≠4->m.get (z+j)=none:=λj a U=>(x.get _ (by omega)).trans (aj j a U);have ao:=al.some ag ay;obtain⟨n,e⟩:=c1.form;subst e;obtain⟨f,e⟩:=c2.form;subst e;have d:z+4<m.next:=by omega
 have aH:=λo=>eG (ah:=pm.ah) (ok:=pm.ok) (o:=o) (b:=z+4) (by have:=s.ah;omega);obtain⟨A2,aq⟩:∃A,A=m.put (z+4) (.cells [.slice n ab.a.length ab.a.length,.slice f ab.rows.length ab.rows.length] (.t ga)):=⟨_,rfl⟩;have d:E<z:=by omega
 have l:du [z+4] [E]=true:=fq (by omega);simp[aG,ao,setCells,bB,aH,<-aq,l,cj,cd,jT,dM,ed,d,-rL];have cx:∀j,j<ab.rows.length->∃v,W j=(ab.row j).cells v/\dk H ak v (ab.row j).j.length 2 (jm (ab.row j).j):=λj a=>by
  obtain⟨r,bP,q,k,V⟩:=aD j a;rw[aI.rowAt a]at q;cases q;exact⟨bP,k,V⟩
 obtain⟨p,ar⟩:∃p:Nat->Value,∀j,j<ab.rows.length->W j=(ab.row j).cells (p j)/\dk H ak (p j) (ab.row j).j.length 2 (jm (ab.row j).j):=by
  have:∀j,∃v,j<ab.rows.length->W j=(ab.row j).cells v/\dk H ak v (ab.row j).j.length 2 (jm (ab.row j).j):=λj=>by
   by_cases a:j<ab.rows.length
   ·obtain⟨v,b⟩:=cx j a;exact⟨v,λ_=>b⟩
   ·exact⟨.bool true,λh=>absurd h a⟩
  exact⟨λj=>(this j).choose,λj=>(this j).choose_spec⟩
 have o:y5 H bl (z+4) t.next u.next m.next:=⟨by omega,by omega,by omega,aC,an⟩;have s0:lb pm H A2 bl (z+4) t.next u.next m.next (.slice n ab.a.length ab.a.length) (.slice f ab.rows.length ab.rows.length) ab (λj=>(ab.row j).cells (p j)):=by
  rw[aq];refine⟨aF.put aE (by omega) ao (by simp) _,?_,b1,?_,?_,bg _⟩
  ·rw[a7 (by omega)];exact(K.trans B al).some s aw
  ·refine((c1.ext (x.ext g3)).congr λj a=>?_).put (.inl (by omega)) _;obtain⟨c,q,k⟩:=aB j a;rw[aI.jv a]at q;cases q;exact k.symm
  ·exact(c2.congr λj a=>(ar j a).1.symm).put (.inl (by omega)) _
 have d:=s0.x;simp[d,-Al,-Am]
 refine eE (σ:=Nat->Value) ab.rows.length (λ_ _=>[(2,.pointer (some ⟨bl,0,none⟩)),(3,.pointer (some ⟨z+4,0,none⟩)),(14,.slice f ab.rows.length ab.rows.length)])
  (λi b aa=>lb pm H aa bl (z+4) t.next u.next m.next (.slice n ab.a.length ab.a.length) (.slice f ab.rows.length ab.rows.length) ab (λj=>(ab.row j).cells (if j<i then b j else p j))/\
   ∀j,j<i->dk aa m.next (b j) (ab.row j).j.length 2 (jm (ab.row j).j))
  (λ_=>.bool true) (by decide) (by omega) (by simp) ⟨by simpa using s0,λj a=>absurd a (hz _)⟩ (by simp) ?_ ?_
 ·rintro i b _ c ⟨d,v⟩;refine ND D g o d c (r:=ab.row i) (bP:=p i) (m0:=ak) (by simp) (ar i c).2 (au i c) ?_;intro _ _ c d w F H;refine⟨λj=>if j=i then c else b j,d,?_,λj a=>?_⟩
  ·have e:(λj=>if j=i then(ab.row i).cells c else(ab.row j).cells (if j<i then b j else p j))=(λj=>(ab.row j).cells (if j<i+1 then(if j=i then c else b j) else p j)):=by
    funext j;by_cases e:j=i
    ·subst e;simp
    ·by_cases k:j<i
     ·simp[e,k,show j<i+1 by omega]
     ·simp[e,k,show ¬j<i+1 by omega]
   rw[<-e];exact w
  ·by_cases e:j=i
   ·subst e;simpa using F
   ·simp only[e,if_false];exact(v j (by omega)).qt H λ_ _ _ h=>h
 ·rintro F d ⟨r,X⟩;have xB:=r.x;have v:=r.r;have aa:pm.may bl=true:=g.may (by omega);obtain⟨w,i⟩:∃A,A=d.put bl (.cells [.slice n ab.a.length ab.a.length,.slice f ab.rows.length ab.rows.length] (.t ga)):=⟨_,rfl⟩;simp[xB,v,bx,bB,setCells,aa,<-i];refine hQ _ _ _ ?_;have d:w.get bl=some (.cells [.slice n ab.a.length ab.a.length,.slice f ab.rows.length ab.rows.length] (.t ga)):=by rw[i];exact b1
  have e:K pm H w:=by rw[i];exact aF.put r.k (by omega) v (by simp) _
  simp[dG,d,bx,bB];have d:=o.bX;have d:=o.cv;have d:=o.cF;refine⟨e,_,_,u.next,m.next,F,rfl,by omega,an,?_,?_,λj a=>?_⟩
  ·have:=(r.c.put (c:=bl) (.inl (by omega)) (.cells [.slice n ab.a.length ab.a.length,.slice f ab.rows.length ab.rows.length] (.t ga))).mono (BI:=H.next) (AX:=u.next) (by omega) (bg _);rw[<-i]at this;exact this
  ·have b:=(r.w.put (c:=bl) (.inl (by omega)) (.cells [.slice n ab.a.length ab.a.length,.slice f ab.rows.length ab.rows.length] (.t ga)));rw[<-i]at b;exact b.congr λj a=>by simp[a]
  ·have c:=((X j a).put (b:=bl) (by omega) (.cells [.slice n ab.a.length ab.a.length,.slice f ab.rows.length ab.rows.length] (.t ga)) λ_ _ _ h=>h);rw[<-i]at c;exact c
end Go.Dam.C
namespace Go.Dam.C
section
variable{α:Type}{f:α->Option α}
theorem uv:∀{k j:Nat} {a b c:α},e5 f k a=some b->e5 f j a=some c->f b=none->f c=none->b=c
 | 0,0,a,b,c,_,_,_,_=>by grind
 | 0,j+1,a,b,c,e,d,f,_=>by
   cases e;rw[e5,f]at d;cases d
 | k+1,0,a,b,c,d,e,_,f=>by
   cases e;rw[e5,f]at d;cases d
 | k+1,j+1,a,b,c,d,e,g,h=>by
   rw[e5]at d e
   cases b:f a with
   | none=>grind
   | some _=>
     rw[b]at d e;exact uv d e g h
theorem A7:∀{k:Nat} {a b c:α},e5 f k a=some b->f b=some c->e5 f (k+1) a=some c
 | 0,a,b,c,h,e=>by cases h;rw[e5,e];rfl
 | k+1,a,b,c,h,e=>by
   rw[e5]at h|-
   cases b:f a with
   | none=>grind
   | some _=>
     rw[b]at h;exact A7 h e
end
def vW(ab:aI)(T:bd):Prop:=mo ab.q (eU ab) T/\∃k,e5 (hr ab.q) k ab.L=some T
def ra(ab:aI)(T:bd):Prop:=lh ab.q (eU ab) T/\∃a k j,e5 (hr ab.q) k ab.L=some a/\kv ab.q a=none/\e5 (gk ab.q ab.cs) j a=some T
abbrev lq(ab:aI)(a:hE):Prop:=p0 ab (vW ab) (ra ab) a
theorem KO{ab:aI}(h:d' ab)(b:ab.I=true):tm ab (vW ab) (ra ab) 2000 where
 t1:=(runs h b).t1
 s7:=(runs h b).s7
 s1:=⟨(runs h b).s1,0,rfl⟩
 g1:=λT a=>(runs h b).g1 T a.1
 cf:=λT c a e=>⟨(runs h b).cf T c a.1 e,a.2.choose+1,A7 a.2.choose_spec e⟩
 s2:=λT a e=>⟨(runs h b).s2 T a.1 e,T,a.2.choose,0,a.2.choose_spec,e,rfl⟩
 g2:=λT a=>(runs h b).g2 T a.1
 fR:=λT c a e=>by
  obtain⟨d,f,k,j,g,i,l⟩:=a;exact⟨(runs h b).fR T c d e,f,k,j+1,g,i,A7 l e⟩
 yL:=λT a=>(runs h b).yL T a.1
theorem lq.s{ab:aI}{a:hE}(h:lq ab a):p0 ab (mo ab.q (eU ab)) (lh ab.q (eU ab)) a:=by
 cases h with
 | inf T a b c d=>exact .inf T a b.1 c d
 | qW T c a b d=>exact .qW T c a.1 b d
 | opt T a b=>exact .opt T a.1 b
theorem AJ{P:bu}{T:bd}(h:kv P T=none):hr P T=none:=by unfold hr;rw[h]
theorem AK{P:bu}{T:bd}{a:Nat}(h:kv P T=some a)(b:kM P T a (off P T.v (T.rows a))=none):hr P T=none:=by unfold hr;grind
theorem wX{P:bu}{c:Nat->Rat}{T:bd}(h:enters P c T=none):gk P c T=none:=by unfold gk;rw[h]
theorem wY{P:bu}{c:Nat->Rat}{T:bd}{k:Nat}(h:enters P c T=some k)(a:(dn P T k (hp P c T k) P.m).Y=none):gk P c T=none:=by unfold gk;grind
theorem ra.one{ab:aI}{T a:bd}(h:ra ab T)(b:ra ab a)(e:gk ab.q ab.cs T=none)(c:gk ab.q ab.cs a=none):T=a:=by
 obtain⟨_,_,_,_,d,f,g⟩:=h;obtain⟨_,_,_,_,i,j,k⟩:=b;obtain rfl:=uv d i (AJ f) (AJ j);exact uv g k e c
theorem vW.no{ab:aI}{T b:bd}{a:Nat}(h:vW ab T)(c:kv ab.q T=some a)(d:kM ab.q T a (off ab.q T.v (T.rows a))=none)(e:ra ab b):False:=by
 obtain⟨_,_,a⟩:=h;obtain⟨_,_,_,_,f,g,_⟩:=e;obtain rfl:=uv a f (AK c d) (AJ g);grind
theorem lq.uniq{ab:aI}{a b:hE}(h:lq ab a)(g:lq ab b):a=b:=by
 cases h with
 | inf _ _ a b c=>
   cases g with
   | inf _ _ d e f=>
     obtain⟨_,_,g⟩:=a;obtain⟨_,_,h⟩:=d;obtain rfl:=uv g h (AK b c) (AK e f);grind
   | qW _ _ d _ _=>exact(a.no b c d).elim
   | opt _ d _=>exact(a.no b c d).elim
 | qW _ _ a b c=>
   cases g with
   | inf _ _ d e f=>exact(d.no e f a).elim
   | qW _ _ d e f=>
     obtain rfl:=a.one d (wY b c) (wY e f);grind
   | opt _ d e=>
     obtain rfl:=a.one d (wY b c) (wX e);grind
 | opt _ a b=>
   cases g with
   | inf _ _ c d e=>exact(c.no d e a).elim
   | qW _ _ c d e=>
     obtain rfl:=a.one c (wX b) (wY d e);grind
   | opt _ c d=>
     obtain rfl:=a.one c (wX b) (wX d);rfl
theorem lq.len{ab:aI}(h:d' ab)(a:ab.I=true){c:hE}(b:lq ab c)(d:c.st=2):(yM (rB ab c.d false)).length<1000000:=SZ h a b.s d
end Go.Dam.C
namespace Go.Dam.C
open Go Go.Dam
variable{X:ar}{pm:Perm}{H aa bL aj:ad}{n:Nat}
structure tg(X:ar):Prop extends vR X where
 nN:Has X F.nN C.nN
 mC:Has X F.mC C.mC
 nL:Has X F.nL C.nL
abbrev eW:Nat:=T.NP
abbrev pT:Nat:=T.NQ
abbrev y2:Value:=.agg #[.int .i64 0,.string ⟨#[]⟩,.slice none 0 0,.slice none 0 0,.slice none 0 0]
def ey(H:ad)(p ak:Nat)(ab:aI):Prop:=∃a b,H.get p=some (.cells [a,b] (.t pT))/\fC H ak (.agg #[a,b]) ab
theorem ey.ext{p ak:Nat}{ab:aI}(h:ey H p ak ab)(e:Ext H aa):ey aa p ak ab:=by
 obtain⟨a,b,c,d⟩:=h;exact⟨a,b,e _ _ c,d.ext e⟩
theorem ey.mono{p ak cf:Nat}{ab:aI}(h:ey H p ak ab)(e:cf<=ak):ey H p cf ab:=by
 obtain⟨a,b,c,d⟩:=h;exact⟨a,b,c,d.mono e⟩
theorem ey.put{p c ak:Nat}{ab:aI}(h:ey H p ak ab)(a:c<ak)(a:c≠p)(x:bk):ey (H.put c x) p ak ab:=by
 obtain⟨b,c,d,e⟩:=h;exact⟨b,c,by rw[a7 (Ne.symm a)];exact d,e.put (by omega) x⟩
structure fO(pm:Perm)(p:Nat)(H aa:ad):Prop where
 h:bs pm aa
 next:H.next<=aa.next
 get:∀b,b<H.next->b≠p->aa.get b=H.get b
 cr:∀b o,H.get b=some (.cr o)->aa.get b=some (.cr o)
theorem K.jx{p:Nat}(k:K pm H aa):fO pm p H aa:=⟨k.h,k.next,λb a _=>k.get b a,k.cr⟩
theorem fO.trans{p:Nat}(k:fO pm p H aa)(l:fO pm p aa bL):fO pm p H bL:=⟨l.h,aY k.next l.next,λb a c=>(l.get b (eC a k.next) c).trans (k.get b a c),λb o h=>l.cr b o (k.cr b o h)⟩
theorem fO.put{p:Nat}{cs:List Value}{z:cz}(g:bs pm H)(a:H.get p=some (.cells cs z))(x:bk):fO pm p H (H.put p x):=by
 have u:=aF.put (n:=p) (.refl g) (bg _) a (by simp) x;exact⟨u.h,u.next,λ_ _ a=>a7 a,u.cr⟩
theorem fO.some{p b:Nat}{y:bk}(k:fO pm p H aa)(g:bs pm H)(a:b≠p)(h:H.get b=some y):aa.get b=some y:=(k.get b (g.lt h) a).trans h
theorem fO.up{p:Nat}(k:fO pm p H aa)(a:n<=p)(a:n<=H.next):aF pm n H aa:=⟨k.h,k.next,λb _=>k.get b (by omega) (by omega),k.cr⟩
theorem fO.fin{p c:Nat}{cs:List Value}{z:cz}(k:fO pm p H aa)(a:H.next<=c)(a:aa.get c=Option.some (.cells cs z))(x:bk):fO pm p H (aa.put c x):=by
 have u:=aF.put (n:=0) (.refl k.h) (Nat.zero_le _) a (by simp) x;exact⟨u.h,aY k.next u.next,λb a c=>by rw[a7 (by omega)];exact k.get b a c,λb o h=>u.cr b o (k.cr b o h)⟩
theorem NN(Q:tg X)(g:bs pm H){v:Value}{ab:aI}{ak:Nat}(W:fC H ak v ab)(C:d' ab)(ay:∀i,i<ab.rows.length->(ab.row i).j.length<=1000):
 Call X pm F.nN [v] H λr aa=>K pm H aa/\(ab.I=false/\r=.tuple #[.pointer none,y2,.bool false]∨ab.I=true/\∃p a u,r=.tuple #[.pointer (some ⟨p,0,none⟩),u,.bool true]/\H.next<=p/\ey aa p (p+1) ab/\iK aa H.next u a/\lq ab a):=by
 refine Call.P Q.nN rfl λ_ hQ=>?_;have af:=W;obtain⟨_,_,rfl,Y,h2⟩:=W;obtain⟨D,E,R,_⟩:=id Y;obtain⟨G,I,S,_⟩:=id h2;subst R S;obtain⟨T,U⟩:∃b,b=H.next:=⟨_,rfl⟩;obtain⟨h,J⟩:∃h,h=H.new (.cells [.slice D ab.a.length E,.slice G ab.rows.length I] (.t ga)):=⟨_,rfl⟩;have k1:K pm H h:=by rw[J];exact K.new g _
 have g1:=k1.h;have ai:h.get T=some (.cells [.slice D ab.a.length E,.slice G ab.rows.length I] (.t ga)):=by rw[J,U];exact b4
 obtain⟨d,V⟩:∃b,b=h.next:=⟨_,rfl⟩;obtain⟨t,L⟩:∃t,t=h.new (.cells [.int .i64 0,.string ⟨#[]⟩,.slice none 0 0,.slice none 0 0,.slice none 0 0] (.t eW)):=⟨_,rfl⟩;have W:K pm h t:=by rw[L];exact K.new g1 _
 have Y:=W.h;have aB:t.get d=some (.cells [.int .i64 0,.string ⟨#[]⟩,.slice none 0 0,.slice none 0 0,.slice none 0 0] (.t eW)):=by rw[L,V];exact b4
 have ag:=W.some g1 ai;have ai:=k1.trans W;have cf:h.next=T+1:=by rw[J,U];rfl
 have h:t.next=d+1:=by rw[L,V];rfl
 have aC:pm.may d=true:=g.may (by omega);simp[g.pick,g.make,ptr,<-U,<-J,  <-V,<-L,ag,bx,bB,-Af,-Ag];refine aq.of (az:=[.agg #[.slice D ab.a.length E,.slice G ab.rows.length I]]) (by simp) (by simp) (Ga Q.toep Y C.ok (af.ab.ext (ai.ext g)) (λx=>KO C x)) ?_;rintro _ k ⟨h,h3⟩;have e:=h.h;have aj:=ai.trans h;have ak:=h.some Y aB;have aD:=h.some Y ag;have J:=h.next;obtain⟨i,w⟩:∃b,b=k.next:=⟨_,rfl⟩;have al:pm.may i=true:=e.may (by omega);have an:∀h,(k.new h).get i=some h:=λh=>by rw[w];exact b4
 rcases h3 with⟨x,rfl⟩ | ⟨x,a,u,rfl,hu,hL⟩
 ·obtain⟨b,c⟩:∃A,A=(k.new (.cells [.int .i64 0,.string ⟨#[]⟩,.slice none 0 0,.slice none 0 0,.slice none 0 0] (.t eW))).put i (.cells [.int .i64 0,.string ⟨#[]⟩,.slice none 0 0,.slice none 0 0,.slice none 0 0] (.t eW)):=⟨_,rfl⟩;have f:K pm k b:=by rw[c,w];exact ic e _ _ (by simp)
  have g:=f.some e ak;obtain⟨j,a⟩:∃A,A=b.put d (.cells [.int .i64 0,.string ⟨#[]⟩,.slice none 0 0,.slice none 0 0,.slice none 0 0] (.t eW)):=⟨_,rfl⟩;have b:K pm H j:=by rw[a];exact aF.put (K.trans aj f) (by omega) g (by simp) _
  have f:j.get d=some (.cells [.int .i64 0,.string ⟨#[]⟩,.slice none 0 0,.slice none 0 0,.slice none 0 0] (.t eW)):=by rw[a];exact b1
  simp[e.pick,e.make,ptr,bB,<-w,an,al,setCells,<-c,g,aC,<-a,fill,-Ae];refine hQ _ _ _ ?_;simp[dG,f,bx,bB,x];exact b
 ·obtain⟨_,_,_,rfl,ao,aq,ar⟩:=hu;obtain⟨l,m,R,_⟩:=ao.1.ex;obtain⟨n,p,S,_⟩:=aq.1.ex;obtain⟨q,r,e3,_⟩:=ar.1.ex;subst R S e3;have hu:iK k t.next (.agg #[.int .i64 a.st,aA a.val,.slice l a.x.length m,.slice n a.d.length p,.slice q a.r.length r]) a:=⟨_,_,_,rfl,ao,aq,ar⟩;obtain⟨f,F⟩:∃A,A=(k.new (.cells [.int .i64 0,.string ⟨#[]⟩,.slice none 0 0,.slice none 0 0,.slice none 0 0] (.t eW))).put i (.cells [.int .i64 a.st,aA a.val,.slice l a.x.length m,.slice n a.d.length p,.slice q a.r.length r] (.t eW)):=⟨_,rfl⟩;have v:K pm k f:=by rw[F,w];exact ic e _ _ (by simp)
  have u:=v.h;have h:f.next=i+1:=by rw[F,w];rfl
  have aE:f.get i=some (.cells [.int .i64 a.st,aA a.val,.slice l a.x.length m,.slice n a.d.length p,.slice q a.r.length r] (.t eW)):=by rw[F];exact b1
  have aG:=v.some e ak;have aH:=v.some e aD;have au:=K.trans aj v;obtain⟨z,y⟩:∃z,z=f.next:=⟨_,rfl⟩;have X:K pm f (f.up 8):=(K.refl u).up 8;have av:=λj=>(by rw[y];exact u.none j:(f.up 8).get (z+j)=none);have aI:=(by rw[y];exact u.J:(f.up 8).get z=none);simp[e.pick,e.make,ptr,bB,<-w,an,al,setCells,<-F];refine cy.of u.ah rfl ?_;rw[<-y];simp[b7,av,aI,aH,aE,bx,bB];refine eM X.h (az:=[.agg #[.slice D ab.a.length E,.slice G ab.rows.length I]]) (by simp[av]) (by simp) (by simp) rfl (λ_ h=>tX Q.tovR h (af.ext ((K.trans au X).ext g)) (by have:=C.n;omega) (by have:=C.m;omega) ay) ?_;rintro _ H5 M Z;have h:=M.h;have aJ:=K.trans X M;have N:=M.res u;rw[<-y]at N;have h:(f.up 8).next=z+8:=by rw[y];rfl
  rw[h]at Z;obtain⟨_,_,_,rfl,_,h,c2⟩:=Z.gp;obtain⟨aa,ad⟩:=h.form;subst ad;obtain⟨b2,ae,ad,_⟩:=id c2;subst ad;have h:=M.next;obtain⟨O,B⟩:∃A,A=H5.put (z+4) (.cells [.slice aa ab.a.length ab.a.length,.slice b2 ab.rows.length ae] (.t pT)):=⟨_,rfl⟩;have P:K pm f O:=by rw[B];exact aF.fill aJ (by omega) (N 4 (by decide)) (by omega) _
  have f:=P.h;have aw:=P.some u aG;have aK:O.get (z+4)=some (.cells [.slice aa ab.a.length ab.a.length,.slice b2 ab.rows.length ae] (.t pT)):=by rw[B];exact b1
  have ax:∀j,j<8->j≠4->O.get (z+j)=none:=λj f _=>by rw[B,a7 (by omega)];exact N j f
  obtain⟨H7,s⟩:∃A,A=O.put d (.cells [.int .i64 a.st,aA a.val,.slice l a.x.length m,.slice n a.d.length p,.slice q a.r.length r] (.t eW)):=⟨_,rfl⟩;have f:T<z:=by omega
  have h:d<z:=by omega
  have j:i<z:=by omega
  have k:=λo=>eG (ah:=pm.ah) (ok:=pm.ok) (o:=o) (b:=d) (by have:=g.ah;omega);have t:du [z+4] [i]=true:=fq (by omega);simp[N,fill,setCells,bB,Perm.make,Perm.pick,ptr,<-B,ax,aw,k,<-s,t,cj,cd,jT,dM,ed,f,h,j];refine⟨by rw[s,a7 (by omega)];exact ax 7 (by decide) (by decide),?_⟩;have f:K pm H H7:=by rw[s];exact aF.put (K.trans au P) (by omega) aw (by simp) _
  have h:H7.get d=some (.cells [.int .i64 a.st,aA a.val,.slice l a.x.length m,.slice n a.d.length p,.slice q a.r.length r] (.t eW)):=by rw[s];exact b1
  refine hQ _ _ _ ?_;simp[dG,h,bx,bB,x];refine⟨f,z+4,a,_,⟨rfl,rfl⟩,by omega,⟨_,_,by rw[s,a7 (by omega)];exact aK,?_⟩,?_,hL⟩
  ·have h:=(((Z.e).put (b:=z+4) (by omega) (.cells [.slice aa ab.a.length ab.a.length,.slice b2 ab.rows.length ae] (.t pT))).put (b:=d) (by omega) (.cells [.int .i64 a.st,aA a.val,.slice l a.x.length m,.slice n a.d.length p,.slice q a.r.length r] (.t eW))).mono (cf:=z+4+1) (by omega);rw[<-B,<-s]at h;exact h
  ·have h:=((hu.ext ((K.trans v P).ext e)).put (c:=d) (by omega) (.cells [.int .i64 a.st,aA a.val,.slice l a.x.length m,.slice n a.d.length p,.slice q a.r.length r] (.t eW))).mono (cf:=H.next) (by omega);rw[<-s]at h;exact h
def nE(pm:Perm)(p ak:Nat)(H:ad)(ab:aI)(r:Value)(aa:ad):Prop:=
 ab.I=false/\K pm H aa/\r=.tuple #[y2,.bool false]∨ab.I=true/\fO pm p H aa/\ey aa p ak ab/\∃a u,r=.tuple #[u,.bool true]/\iK aa H.next u a/\lq ab a
theorem Ly(w:tg X)(g:bs pm H){p ak cf:Nat}{ah ab:aI}{v:Value}(hp:pm.may p=true)(ai:p<ak)(hs:ey H p cf ah)(D:fC H ak v ab)(x:d' ab):
 Call X pm F.mC [.pointer (some ⟨p,0,none⟩),v] H (nE pm p ak H ab):=by
 refine Call.P w.mC rfl λ_ R=>?_;have y:=D;obtain⟨_,_,rfl,h1,h2⟩:=D;obtain⟨c,d,z,_⟩:=id h1;obtain⟨e,f,A,_⟩:=id h2;subst z A;obtain⟨_,_,S,_⟩:=hs;have D:=g.lt S;obtain⟨T,B⟩:∃n,n=H.next:=⟨_,rfl⟩;obtain⟨b,o⟩:∃b,b=H.new (.cells [.slice c ab.a.length d,.slice e ab.rows.length f] (.t ga)):=⟨_,rfl⟩;have U:K pm H b:=by rw[o];exact K.new g _
 have V:=U.h;have aj:b.get T=some (.cells [.slice c ab.a.length d,.slice e ab.rows.length f] (.t ga)):=by rw[o,B];exact b4
 obtain⟨h,C⟩:∃n,n=b.next:=⟨_,rfl⟩;obtain⟨i,q⟩:∃i,i=b.new (.cells [.int .i64 0,.string ⟨#[]⟩,.slice none 0 0,.slice none 0 0,.slice none 0 0] (.t eW)):=⟨_,rfl⟩;have D:K pm b i:=by rw[q];exact K.new V _
 have E:=D.h;have al:i.get h=some (.cells [.int .i64 0,.string ⟨#[]⟩,.slice none 0 0,.slice none 0 0,.slice none 0 0] (.t eW)):=by rw[q,C];exact b4
 have W:=D.some V aj;have Y:=U.trans D;have cf:b.next=T+1:=by rw[o,B];rfl
 have b:i.next=h+1:=by rw[q,C];rfl
 have Z:pm.may h=true:=g.may (by omega);simp[g.pick,g.make,ptr,<-B,<-o,  <-C,<-q,W,bx,bB,-wS,-Ap];refine aq.of (az:=[.agg #[.slice c ab.a.length d,.slice e ab.rows.length f]]) (by simp) (by simp) (zf w.toiO E (y.ab.ext (Y.ext g)) x.ok) ?_;rintro _ G ⟨j,rfl⟩;have I:=j.h;have r:=Y.trans j;have J:=j.some E al;have aa:=j.some E W;have b:=j.next;have ad:=r.some g S
 cases k:ab.I with
 | false=>
   obtain⟨g,a⟩:∃b,b=G.put h (.cells [.int .i64 0,.string ⟨#[]⟩,.slice none 0 0,.slice none 0 0,.slice none 0 0] (.t eW)):=⟨_,rfl⟩;have b:K pm H g:=by rw[a];exact aF.put r (by omega) J (by simp) _
   have i:g.get h=some (.cells [.int .i64 0,.string ⟨#[]⟩,.slice none 0 0,.slice none 0 0,.slice none 0 0] (.t eW)):=by rw[a];exact b1
   simp[fill,bB,setCells,J,Z,<-a,-wS];refine R _ _ _ ?_;simp[dG,i,bx,bB,nE,k];exact b
 | true=>
   obtain⟨s,t⟩:∃F,F=G.put p (.cells [.slice c ab.a.length d,.slice e ab.rows.length f] (.t pT)):=⟨_,rfl⟩;have l:fO pm p G s:=by rw[t];exact fO.put I ad _
   have L:=l.h;have b:=l.some I (by omega) J;have i:=l.some I (by omega) aa;have an:s.get p=some (.cells [.slice c ab.a.length d,.slice e ab.rows.length f] (.t pT)):=by rw[t];exact b1
   have ao:=(K.jx (p:=p) r).trans l;have j:fC s ak (.agg #[.slice c ab.a.length d,.slice e ab.rows.length f]) ab:=by
    rw[t];exact(y.ext (r.ext g)).put ai _
   simp[aa,bx,bB,ad,hp,setCells,<-t,i,-Ao];refine aq.of (az:=[.agg #[.slice c ab.a.length d,.slice e ab.rows.length f]]) (by simp) (by simp) (Ga w.toep L x.ok j.ab (λk=>KO x k)) ?_;rintro _ X ⟨v,h5⟩;have c:=v.h;have ae:=v.some L b
   rcases h5 with⟨H0,_⟩ | ⟨_,a,u,rfl,hu,OQ⟩
   ·rw[k]at H0;cases H0
   ·obtain⟨_,_,_,rfl,ab,af,ag⟩:=hu;obtain⟨u,M,z,_⟩:=ab.1.ex;obtain⟨N,O,A,_⟩:=af.1.ex;obtain⟨P,Q,e3,_⟩:=ag.1.ex;subst z A e3;have hu:iK X s.next (.agg #[.int .i64 a.st,aA a.val,.slice u a.x.length M,.slice N a.d.length O,.slice P a.r.length Q]) a:=⟨_,_,_,rfl,ab,af,ag⟩;obtain⟨H6,m⟩:∃F,F=X.put h (.cells [.int .i64 a.st,aA a.val,.slice u a.x.length M,.slice N a.d.length O,.slice P a.r.length Q] (.t eW)):=⟨_,rfl⟩;simp[setCells,ae,Z,<-m];have c:H6.get h=some (.cells [.int .i64 a.st,aA a.val,.slice u a.x.length M,.slice N a.d.length O,.slice P a.r.length Q] (.t eW)):=by rw[m];exact b1
    have d:=ao.trans (K.jx (p:=p) v);have b:=l.next;have b:fO pm p H H6:=by rw[m];exact d.fin (by omega) ae _
    refine R _ _ _ ?_;simp[dG,c,bx,bB,nE,k];refine⟨b,⟨_,_,by rw[m,a7 (by omega)];exact v.some L an,y.jY λn _ _ h=>b.some g (by omega) h⟩,a,?_,OQ⟩;rw[m];exact(hu.put (by omega) _).mono (by omega)
def aI.kr(ab:aI)(k:Nat)(ah up:List UInt8):aI:={ab with a:=ab.a.set k {ab.af k with low:=ah,up:=up}}
theorem sT{ab:aI}{k:Nat}{ah up:List UInt8}:(ab.kr k ah up).a.length=ab.a.length:=by simp[aI.kr]
theorem K3{ab:aI}{k j:Nat}{ah up:List UInt8}(a:j<ab.a.length):(ab.kr k ah up).af j=if j=k then{ab.af k with low:=ah,up:=up} else ab.af j:=by
 unfold aI.kr aI.af;by_cases e:j=k
 ·subst e;simp[a]
 ·simp[sz (Ne.symm e),e]
theorem SC{ab:aI}{k:Nat}{ah up:List UInt8}(h:d' ab)(b:k<ab.a.length)(e:ah.length<=30)(e:up.length<=30):d' (ab.kr k ah up):=by
 refine⟨by rw[sT];exact h.n,h.m,λ_ c=>?_,h.r⟩;obtain⟨j,a,rfl⟩:=u5 c;rw[sT]at a;have e:=aI.jv (ab:=ab.kr k ah up) (i:=j) (by rw[sT];exact a);rw[eu (by rw[sT];exact a)]at e;rw[jF e,K3 a];have d:=h.c _ (eB (aI.jv b));have f:=h.c _ (eB (aI.jv a));split
 ·exact⟨by simpa using(show ah.length<=30 by omega),by simpa using(show up.length<=30 by omega),d.2.2⟩
 ·exact f
theorem LV(V:tg X)(g:bs pm H){p ak:Nat}{ab:aI}{af:Int}{ah up:List UInt8}(hp:pm.may p=true)(hs:ey H p ak ab)(W:d' ab)(au:∀i,i<ab.rows.length->(ab.row i).j.length<=1000)(av:ah.length<=30)(aw:up.length<=30):
 Call X pm F.nL [.pointer (some ⟨p,0,none⟩),.int .i64 af,aA ah,aA up] H λr aa=>((af<0∨(ab.a.length:Int)<=af)/\K pm H aa/\r=.tuple #[y2,.bool false])∨∃k:Nat,af=k/\k<ab.a.length/\nE pm p H.next H (ab.kr k ah up) r aa:=by
 refine Call.P V.nL rfl λ_ I=>?_;obtain⟨_,_,Z,ai⟩:=id hs;obtain⟨_,_,m,Y,J⟩:=id ai;cases m;obtain⟨ax,ay,m,_⟩:=id Y;subst m;obtain⟨b2,aB,m,_⟩:=id J;subst m;have ak:=g.lt Z;obtain⟨c,x⟩:∃b,b=H.next:=⟨_,rfl⟩;obtain⟨v,w⟩:∃A,A=H.new (.cells [.int .i64 0,.string ⟨#[]⟩,.slice none 0 0,.slice none 0 0,.slice none 0 0] (.t eW)):=⟨_,rfl⟩;have y:K pm H v:=by rw[w];exact K.new g _
 have g1:=y.h;have n1:v.next=c+1:=by rw[w,x];rfl
 have L:v.get c=some (.cells [.int .i64 0,.string ⟨#[]⟩,.slice none 0 0,.slice none 0 0,.slice none 0 0] (.t eW)):=by rw[w,x];exact b4
 have aj:=y.some g Z;have M:pm.may c=true:=g.may (by omega);have zero:K pm H (v.put c (.cells [.int .i64 0,.string ⟨#[]⟩,.slice none 0 0,.slice none 0 0,.slice none 0 0] (.t eW))):=aF.put y (by omega) L (by simp) _;have ak:(v.put c (.cells [.int .i64 0,.string ⟨#[]⟩,.slice none 0 0,.slice none 0 0,.slice none 0 0] (.t eW))).get c=some (.cells [.int .i64 0,.string ⟨#[]⟩,.slice none 0 0,.slice none 0 0,.slice none 0 0] (.t eW)):=b1;by_cases Z:af<0
 ·simp[g.pick,g.make,ptr,<-x,<-w,Z,bz,fill,bB,setCells,L,M,-wP];refine I _ _ _ ?_;simp[dG,ak,bx,bB,Z];exact .inl zero
 by_cases h1:(ab.a.length:Int)<=af
 ·simp[g.pick,g.make,ptr,<-x,<-w,Z, bz,fill,bB,setCells,L,M,aj,show ¬af<(ab.a.length:Int) by omega,-wP];refine I _ _ _ ?_;simp[dG,ak,bx,bB,h1];exact .inl zero
 obtain⟨k,rfl⟩:∃k:Nat,af=k:=⟨af.toNat,by omega⟩;have e:k<ab.a.length:=by omega
 simp[g.pick,g.make,ptr,<-x,<-w,e,bz,bB,bx,aj,-z',-Ab];refine aq.of (az:=[.agg #[.slice ax ab.a.length ay,.slice b2 ab.rows.length aB]]) (by simp) (by simp) (tX V.tovR g1 (ai.ext (y.ext g)) (by have:=W.n;omega) (by have:=W.m;omega) au) ?_;rintro _ N ⟨O,ow⟩;obtain⟨_,_,nn,rfl,_,d1,d2⟩:=ow.gp;have n:=O.h;have w:=O.next;obtain⟨a,al,l1,l2,rfl,hL,cL⟩:=d1.pos (by omega);obtain⟨B,C,m,_⟩:=id d2;subst m;obtain⟨h,Q⟩:∃b,b=N.next:=⟨_,rfl⟩;have aC:pm.may h=true:=n.may (by omega);have aD:∀x,(N.new x).get h=some x:=λx=>by rw[Q];exact b4
 obtain⟨f,R⟩:∃A,A=(N.new (.cells [.slice none 0 0,.slice none 0 0] (.t ga))).put h (.cells [.slice (some ⟨a,0,none⟩) ab.a.length ab.a.length,.slice B ab.rows.length C] (.t ga)):=⟨_,rfl⟩;have D:K pm N f:=by rw[R,Q];exact ic n _ _ (by simp)
 have S:=D.h;have an:f.get h=some (.cells [.slice (some ⟨a,0,none⟩) ab.a.length ab.a.length,.slice B ab.rows.length C] (.t ga)):=by rw[R];exact b1
 have m:f.next=h+1:=by rw[R,Q];rfl
 have ao:=D.some n hL;have m:=n.lt hL;have aE:=K.trans (K.trans y O) D;simp[n.pick,n.make,ptr, <-Q,aD,aC,setCells,<-R,-z8];refine cy.of S.ah rfl ?_;obtain⟨z,hz⟩:∃z,z=f.next:=⟨_,rfl⟩;have kU:K pm f (f.up 14):=(K.refl S).up 14;obtain⟨q,ad⟩:∃ae,ae=al.set (k*5+1) (aA ah):=⟨_,rfl⟩;obtain⟨l,ar⟩:∃ae,ae=q.set (k*5+2) (aA up):=⟨_,rfl⟩;obtain⟨T,s⟩:∃A,A=(f.up 14).put a (.cells q (.n 5)):=⟨_,rfl⟩;obtain⟨t,u⟩:∃A,A=T.put a (.cells l (.n 5)):=⟨_,rfl⟩;have m:=cL.lt e (show 1<5 by decide);have w:=cL.lt e (show 2<5 by decide);have x:setCells al (k*5+1) [aA ah]=some q:=by rw[ad];exact setCells_one m
 have y:setCells q (k*5+2) [aA up]=some l:=by rw[ar];exact setCells_one (by rw[ad];simpa using w)
 have m:T.get a=some (.cells q (.n 5)):=by rw[s];exact b1
 have a2:t.get a=some (.cells l (.n 5)):=by rw[u];exact b1
 have aG:c0 l 5 ab.a.length λj=>((ab.kr k ah up).af j).cells:=by
  have Y:c0 q 5 ab.a.length λj=>(if j=k then{ab.af k with low:=ah} else ab.af j:dy).cells:=by
   rw[ad];exact cL.set e (by decide) _ (by simp[dy.cells]) λj _ b=>by simp[b]
  have J:c0 l 5 ab.a.length λj=>(if j=k then{ab.af k with low:=ah,up:=up} else ab.af j:dy).cells:=by
   rw[ar];exact Y.set e (by decide) _ (by simp[dy.cells]) λj _ b=>by simp[b]
  refine⟨J.1,λj g=>?_⟩;have:=J.2 j g;show((ab.kr k ah up).af j).cells.length=5/\∀b,b<5->l[j*5+b]? = ((ab.kr k ah up).af j).cells[b]?;rw[K3 g];exact this
 have w:K pm H T:=by rw[s];exact aF.put (K.trans aE kU) (by omega) ao (by simp) _
 have E:K pm H t:=by rw[u];exact aF.put w (by omega) m (by simp) _
 have U:=E.h;have w:=λj=>(by rw[hz];exact S.none j:(f.up 14).get (z+j)=none);have J:=(by rw[hz];exact S.J:(f.up 14).get z=none);have f:∀j,T.get (z+j)=none:=λj=>by rw[s,a7 (by omega)];exact w j
 have N:∀j,t.get (z+j)=none:=λj=>by rw[u,a7 (by omega)];exact f j
 have N:=λo=>eG (ah:=pm.ah) (ok:=pm.ok) (o:=o) (b:=a) (by have:=g.ah;omega);have Q:du [a] [h]=true:=fq (by omega);have R:a<z:=by omega
 have S:h<z:=by omega
 have z:t.get h=some (.cells [.slice (some ⟨a,0,none⟩) ab.a.length ab.a.length,.slice B ab.rows.length C] (.t ga)):=by rw[u,a7 (by omega),s,a7 (by omega)];exact an
 rw[<-hz];simp[b7,w,J,an,ao,e,x,N,<-s,f,m,y,<-u, Q,R,S,cj,cd, dM,z,bx,bB,-Aa];have aH:fC t (c+1) (.agg #[.slice (some ⟨a,0,none⟩) ab.a.length ab.a.length,.slice B ab.rows.length C]) (ab.kr k ah up):=by
  refine⟨_,_,rfl,?_,?_⟩
  ·have b:dR t v.next nn (.slice (some ⟨a,0,none⟩) ab.a.length ab.a.length) ab.a.length 5 λj=>((ab.kr k ah up).af j).cells:=.inr ⟨a,l,l1,l2,rfl,a2,aG⟩;have g:=b.e (P:=y4 (ab.kr k ah up).a) λi f=>⟨_,aI.jv (by rw[sT];exact f),rfl⟩;rw[sT];exact g.mono (by omega) λ_ _ _ b=>b
  ·have h:=((d2.ext ((K.trans D kU).ext n)).put (b:=a) l2 (.cells q (.n 5))).put (b:=a) l2 (.cells l (.n 5));rw[<-s,<-u]at h;exact h.mono (by omega)
 refine aq.of (az:=[.pointer (some ⟨p,0,none⟩),.agg #[.slice (some ⟨a,0,none⟩) ab.a.length ab.a.length,.slice B ab.rows.length C]]) (by simp) (by simp) (Ly V U hp (by omega) (hs.ext (E.ext g)) aH (SC W e av aw)) ?_;have ag:t.get c=some (.cells [.int .i64 0,.string ⟨#[]⟩,.slice none 0 0,.slice none 0 0,.slice none 0 0] (.t eW)):=by
  rw[u,a7 (by omega),s,a7 (by omega)];exact(K.trans O D).some g1 L
 have a:=E.next;have a:=U.lt ag;rintro _ H5 (⟨hm,G,rfl⟩ | ⟨hm,G,aJ,d,_,rfl,hu,aK⟩)
 ·have a:=G.some U ag;have b:K pm H (H5.put c (.cells [.int .i64 0,.string ⟨#[]⟩,.slice none 0 0,.slice none 0 0,.slice none 0 0] (.t eW))):=aF.put (K.trans E G) (by omega) a (by simp) _;simp[setCells,a,M];refine I _ _ _ ?_;simp[dG,b1,bx,bB];exact .inr ⟨k,rfl,e,.inl ⟨hm,b,rfl⟩⟩
 ·obtain⟨_,_,_,rfl,a,f,h⟩:=id hu;obtain⟨g,i,e1,_⟩:=a.1.ex;obtain⟨o,r,e2,_⟩:=f.1.ex;obtain⟨F,P,e3,_⟩:=h.1.ex;subst e1 e2 e3;have X:=G.some U (by omega) ag;obtain⟨H6,b⟩:∃A,A=H5.put c (.cells [.int .i64 d.st,aA d.val,.slice g d.x.length i,.slice o d.d.length r,.slice F d.r.length P] (.t eW)):=⟨_,rfl⟩;have k6:fO pm p H H6:=by rw[b];exact((K.jx E).trans G).fin (by omega) X _
  have a:H6.get c=some (.cells [.int .i64 d.st,aA d.val,.slice g d.x.length i,.slice o d.d.length r,.slice F d.r.length P] (.t eW)):=by rw[b];exact b1
  simp[setCells,X,M,<-b];refine I _ _ _ ?_;simp[dG,a,bx,bB];refine⟨k,rfl,e,.inr ⟨hm,k6,?_,d,_,rfl,?_,aK⟩⟩
  ·rw[b];exact(aJ.put (by omega) (by omega) _).mono (by omega)
  ·rw[b];exact(hu.put (by omega) _).mono (by omega)
end Go.Dam.C
namespace Go.Dam.C
open Go Go.Dam
variable{X:ar}{pm dC:Perm}{H aa bL aj:ad}{n:Nat}
structure rn(X:ar):Prop extends tg X where
 nQ:Has X F.nQ C.nQ
 nR:Has X F.nR C.nR
 ng:Has X F.ng C.ng
 mA:Has X F.mA C.mA
theorem Nv(c:dq):et [.i,.s] c.cells c.cells=some true:=by
 simp[dq.cells,et]
theorem Nu(c:dy):et [.s,.s,.s,.s,.b] c.cells c.cells=some true:=by
 simp[dy.cells,et]
theorem L0(k:rn X)(g:bs pm H){v aH:Value}{l:List dq}(m:gB H v l)(n:gB H aH l)(L:l.length<=1000000):
 Call X pm F.nQ [v,aH] H λr aa=>K pm H aa/\r=.bool true:=by
 refine Call.P k.nQ rfl λ_ o=>?_;obtain⟨p,q,s,t⟩:=m.ex;obtain⟨u,w,x,y⟩:=n.ex;subst s x;obtain⟨a,z⟩:∃k,k=l.length:=⟨_,rfl⟩;simp[-Ay,<-z];refine ef.of (σ:=Nat) (λi=>[(0,.slice p a q),(1,.slice u a w),(5,.int .i64 (i:Int))]) (λi aa=>i<=a/\K pm H aa) (λi=>a-i) 0 (by simp) ⟨Nat.zero_le _,K.refl g⟩ ?_;rintro i e ⟨_,c⟩;have b:=c.h;by_cases f:i<a
 ·obtain⟨_,_,_,_,_,l,r,v,A,_,k,B⟩:=t i (by omega);obtain⟨_,_,d,_,_,C,D,E,F,_,h,G⟩:=y i (by omega);rw[k]at h;cases h;subst l C;have j:=c.some g r;have d:=c.some g D;have H:=b.lt j;have I:=b.lt d;have J:wr .i64 ((i:Int)+1)=((i+1:Nat):Int):=by rw[b8 (by omega) (by omega)];simp
  have g:K pm e (e.up 9):=(K.refl b).up 9;simp[f];refine cy.of b.ah rfl ?_;simp[b7,b.none,b.J,f,j,d,v,E,A,F,B,G,cj,cd, H,I,bB,J,Nv];refine jk.of (i+1) ?_ (by simp) ⟨by omega,K.trans c g⟩;show a-(i+1)<a-i;omega
 ·obtain rfl:i=a:=by omega
  simp;exact o _ _ _ (by simp;exact c)
theorem ME(l:rn X)(g:bs pm H){r:bQ}{bP m:Value}(n:gB H bP r.j)(o:gB H m r.j)(v:r.j.length<=1000000):
 Call X pm F.nR [.agg (r.cells bP).toArray,.agg (r.cells m).toArray] H λr aa=>K pm H aa/\r=.bool true:=by
 refine Call.P l.nR rfl λ_ w=>?_;obtain⟨e,f,x,_⟩:=n.ex;obtain⟨h,i,y,_⟩:=o.ex;subst x y;obtain⟨z,p⟩:∃j,j=H.next:=⟨_,rfl⟩;obtain⟨a,b⟩:∃a,a=H.new (.cells (r.cells (.slice e r.j.length f)) (.t T.Hm)):=⟨_,rfl⟩;have q:K pm H a:=by rw[b];exact K.new g _
 have s:=q.h;have t:a.get z=some (.cells (r.cells (.slice e r.j.length f)) (.t T.Hm)):=by rw[b,p];exact b4
 obtain⟨A,u⟩:∃j,j=a.next:=⟨_,rfl⟩;obtain⟨c,d⟩:∃c,c=a.new (.cells (r.cells (.slice h r.j.length i)) (.t T.Hn)):=⟨_,rfl⟩;have j:K pm a c:=by rw[d];exact K.new s _
 have m:=j.h;have a:c.get A=some (.cells (r.cells (.slice h r.j.length i)) (.t T.Hn)):=by rw[d,u];exact b4
 have c:=j.some s t;have k:=q.trans j;simp only[bQ.cells]at b d t a c|-;simp[g.pick,g.make,  ptr,<-p,<-b,<-u,<-d,c,a,-Az];refine aq.of (az:=[.slice e r.j.length f,.slice h r.j.length i]) (by simp) (by simp) (L0 l m (n.ext (k.ext g)) (o.ext (k.ext g)) v) ?_;rintro _ _ ⟨B,rfl⟩;simp;exact w _ _ _ (by simp;exact K.trans k B)
theorem FM(L:rn X)(g:bs pm H){v aH:Value}{ab:aI}(y:ab.ok)(hv:iL H v ab)(ai:iL H aH ab):
 Call X pm F.ng [v,aH] H λr aa=>K pm H aa/\r=.bool true:=by
 refine Call.P L.ng rfl λ_ hQ=>?_;obtain⟨_,_,rfl,hc,hr⟩:=hv;obtain⟨M,N,rfl,O⟩:=hc.at;obtain⟨P,Q,rfl,R⟩:=hr.at;obtain⟨o,_,rfl,aj,ak⟩:=ai;obtain⟨S,U,rfl,V⟩:=aj.at;obtain⟨W,Y,rfl,Z⟩:=ak.at;obtain⟨a,ad⟩:∃A,A=ab.a.length:=⟨_,rfl⟩;obtain⟨b,ae⟩:∃A,A=ab.rows.length:=⟨_,rfl⟩;have A:=y.c;have ai:=y.r;rw[<-ad]at O V A;rw[<-ae]at R Z ai;obtain⟨p,af⟩:∃f,f=H.next:=⟨_,rfl⟩;obtain⟨e,B⟩:∃e,e=H.new (.cells [.slice M a N,.slice P b Q] (.t T.Ki)):=⟨_,rfl⟩;have k1:K pm H e:=by rw[B];exact K.new g _
 have g1:=k1.h;have al:e.get p=some (.cells [.slice M a N,.slice P b Q] (.t T.Ki)):=by rw[B,af];exact b4
 obtain⟨q,ag⟩:∃f,f=e.next:=⟨_,rfl⟩;obtain⟨h,C⟩:∃h,h=e.new (.cells [.slice S a U,.slice W b Y] (.t T.Kj)):=⟨_,rfl⟩;have A:K pm e h:=by rw[C];exact K.new g1 _
 have n:=A.h;have D:h.get q=some (.cells [.slice S a U,.slice W b Y] (.t T.Kj)):=by rw[C,ag];exact b4
 have E:=A.some g1 al;have G:=k1.trans A;simp[g.pick,g.make,  ptr,<-af,<-B,<-ag,<-C,E,D,<-ad,<-ae,-CO,-CR];refine ef.of (σ:=Nat) (λi=>[(2,.pointer (some ⟨p,0,none⟩)),(3,.pointer (some ⟨q,0,none⟩)),(5,.int .i64 (i:Int))]) (λi aa=>i<=a/\K pm h aa) (λi=>a-i) 0 (by simp) ⟨Nat.zero_le _,K.refl n⟩ ?_;rintro i H3 ⟨_,k⟩;have c:=k.h;have s:=k.some n E;have ah:=k.some n D;have an:=c.lt s;have ao:=c.lt ah;by_cases t:i<a
 ·obtain⟨f,_,_,_,_,m,r,u,v,_,e,w⟩:=O i t;obtain⟨_,_,d,_,_,x,z,F,H,_,j,I⟩:=V i t;rw[e]at j;cases j;subst m x;have e:=K.trans G k;have l:=e.some g r;have d:=e.some g z;have J:=c.lt l;have T:=c.lt d;have o:wr .i64 ((i:Int)+1)=((i+1:Nat):Int):=by rw[b8 (by omega) (by omega)];simp
  have g:K pm H3 (H3.up 11):=(K.refl c).up 11;simp[t,s];refine cy.of c.ah rfl ?_;simp[b7,c.none,c.J,s,ah,an,ao,t,l,d,u,F,v,H,w,I,cj,cd, J,T,bB,o,Nu];refine jk.of (i+1) ?_ (by simp) ⟨by omega,K.trans k g⟩;show a-(i+1)<a-i;omega
 ·obtain rfl:i=a:=by omega
  simp[s,-CP,-CQ];refine ef.of (σ:=Nat) (λi=>[(2,.pointer (some ⟨p,0,none⟩)),(3,.pointer (some ⟨q,0,none⟩)),(6,.int .i64 (i:Int))]) (λi aa=>i<=b/\K pm h aa) (λi=>b-i) 0 (by simp) ⟨Nat.zero_le _,k⟩ ?_;rintro j l ⟨hj,m⟩;have d:=m.h;have u:=m.some n E;have T:=m.some n D;have a:=d.lt u;have a:=d.lt T;by_cases v:j<b
  ·obtain⟨f,_,_,_,_,f1,f2,f3,f4,r,vc,X,f6,f7⟩:=R j v;obtain⟨b2,_,F,_,_,d1,d2,d3,d4,_,aa,d5,d6,d7⟩:=Z j v;rw[X]at d5;cases d5;subst f1 d1;have w:=K.trans G m;have y1:=w.some g f2;have F:=w.some g d2;have a:=d.lt y1;have a:=d.lt F;have o:wr .i64 ((j:Int)+1)=((j+1:Nat):Int):=by rw[b8 (by omega) (by omega)];simp
   have x:K pm l (l.up 12):=(K.refl d).up 12;have ab:r.j.length<=1000000:=(y.rs _ (eB X)).2.1;obtain⟨z,H⟩:∃z,z=l.next:=⟨_,rfl⟩;have I:=λj=>(by rw[H];exact d.none j:(l.up 12).get (z+j)=none);have aq:=(by rw[H];exact d.J:(l.up 12).get z=none);simp[v,u];refine cy.of d.ah rfl ?_;rw[<-H];simp[b7,I,aq,u,T,v,y1,F,f3,d3,f4,d4,f6,d6,bB];refine gS x.h (az:=[.agg (r.cells vc).toArray,.agg (r.cells aa).toArray]) (by simp[I]) (by simp) (by simp) rfl (λdC a=>ME L a (f7.ext ((K.trans w x).ext g)) (d7.ext ((K.trans w x).ext g)) ab) ?_;rintro _ H5 J rfl;have a:=J.next;have a:∀j,j<12->H5.get (z+j)=none:=λj hj=>(J.get _ (by show z+j<l.next+12;omega)).trans (I j);simp[a,cj,cd,  o,show p<z by omega,show q<z by omega,show f<z by omega,show b2<z by omega];refine jk.of (j+1) ?_ (by simp) ⟨by omega,K.trans m (K.trans x J)⟩;show b-(j+1)<b-j;omega
  ·obtain rfl:j=b:=by omega
   simp[u];exact hQ _ _ _ (by simp;exact K.trans G m)
end Go.Dam.C
namespace Go.Dam.C
open Go Go.Dam
variable{X:ar}{pm dC:Perm}{H aa bL aj:ad}{n:Nat}
theorem hD.put{ak c:Nat}{r:Value}{ab:aI}(h:hD H ak r ab)(a:c<ak)(x:bk):hD (H.put c x) ak r ab:=by
 obtain⟨b,c,d,e,f,rfl,g,i,j,k,l⟩:=h;exact⟨b,c,d,e,f,rfl,g,i,j.put (.inl a) x,k.put (.inl (by omega)) x,λj a=>(l j a).put (by omega) x λ_ _ _ h=>h⟩
theorem hD.ext{ak:Nat}{r:Value}{ab:aI}(h:hD H ak r ab)(e:Ext H aa):hD aa ak r ab:=by
 obtain⟨a,b,c,d,f,rfl,g,i,j,k,l⟩:=h;exact⟨a,b,c,d,f,rfl,g,i,j.ext e,k.ext e,λj a=>(l j a).imp e λ_ _ _ h=>h⟩
theorem hD.mono{ak m0:Nat}{r:Value}{ab:aI}(h:hD H ak r ab)(e:m0<=ak):hD H m0 r ab:=by
 obtain⟨a,b,c,d,f,rfl,_,g,i,j,k⟩:=h;exact⟨a,b,c,d,f,rfl,by omega,g,i.mono e (bg _),j,k⟩
theorem hD.form{ak:Nat}{r:Value}{ab:aI}(h:hD H ak r ab):∃a b,r=.agg #[.slice a ab.a.length ab.a.length,.slice b ab.rows.length ab.rows.length]:=by
 obtain⟨_,_,_,_,_,rfl,_,_,c,d,_⟩:=h;obtain⟨a,rfl⟩:=c.form;obtain⟨b,rfl⟩:=d.form;exact⟨a,b,rfl⟩
theorem FU(l:rn X)(g:bs pm H){p ak:Nat}{ab:aI}(t:ey H p ak ab)(u:ab.a.length<=1000)(v:ab.rows.length<=1000)(w:∀i,i<ab.rows.length->(ab.row i).j.length<=1000):
 Call X pm F.mA [.pointer (some ⟨p,0,none⟩)] H λr aa=>K pm H aa/\hD aa H.next r ab:=by
 refine Call.P l.mA rfl λ_ x=>?_;obtain⟨_,_,y,m⟩:=t;obtain⟨_,_,z,A,B⟩:=id m;cases z;obtain⟨C,D,E,_⟩:=id A;obtain⟨G,I,J,_⟩:=id B;subst E J;obtain⟨a,h⟩:∃t,t=H.next:=⟨_,rfl⟩;obtain⟨b,d⟩:∃b,b=H.new (.cells [.slice none 0 0,.slice none 0 0] (.t T.ua)):=⟨_,rfl⟩;have e:K pm H b:=by rw[d];exact K.new g _
 have n:=e.h;have L:b.get a=some (.cells [.slice none 0 0,.slice none 0 0] (.t T.ua)):=by rw[d,h];exact b4
 have t:b.next=a+1:=by rw[d,h];rfl
 have b:=e.some g y;have M:pm.may a=true:=g.may (by omega);simp[g.pick,g.make,ptr,<-h,<-d,b,bx,bB,-Ad];refine aq.of (az:=[.agg #[.slice C ab.a.length D,.slice G ab.rows.length I]]) (by simp) (by simp) (tX l.tovR n (m.ext (e.ext g)) u v w) ?_;rintro _ N ⟨i,o⟩;have b:=i.h;obtain⟨j,k,rfl⟩:=o.form;have q:=i.some n L;obtain⟨s,f⟩:∃A,A=N.put a (.cells [.slice j ab.a.length ab.a.length,.slice k ab.rows.length ab.rows.length] (.t T.ua)):=⟨_,rfl⟩;have b:K pm H s:=by rw[f];exact aF.put (K.trans e i) (by omega) q (by simp) _
 have d:s.get a=some (.cells [.slice j ab.a.length ab.a.length,.slice k ab.rows.length ab.rows.length] (.t T.ua)):=by rw[f];exact b1
 simp[q,setCells,M,<-f];refine x _ _ _ ?_;simp[dG,d,bx,bB];refine⟨b,?_⟩;have h:=(o.put (c:=a) (by omega) (.cells [.slice j ab.a.length ab.a.length,.slice k ab.rows.length ab.rows.length] (.t T.ua))).mono (m0:=H.next) (by omega);rw[<-f]at h;exact h
end Go.Dam.C
namespace Go.Dam.C
open Go Go.Dam
variable{X:ar}{pm dC:Perm}{H aa bL aj:ad}{n:Nat}
theorem c0.snoc{L xs:List Value}{w n:Nat}{f:Nat->List Value}(h:c0 L w n f)(a:xs.length=w):c0 (L++xs) w (n+1) λj=>if j=n then xs else f j:=by
 refine⟨by simp[h.1,a,hS],λj _=>?_⟩;by_cases e:j=n
 ·subst e;simp only[if_true];refine⟨a,λ_ _=>?_⟩;rw[hR (by rw[h.1];omega),h.1];congr 1;omega
 ·simp only[e,if_false];refine⟨(h.2 j (by omega)).1,λk a=>?_⟩;rw[hi (h.lt (by omega) a)];exact(h.2 j (by omega)).2 k a
theorem dR.gs{ah aJ k w:Nat}{v:Value}{f:Nat->List Value}(h:dR H ah aJ v k w f):∃bN o,lg H v w k bN o/\(∀c,o=some c->ah<=c/\c<aJ)/\c0 bN w k f:=by
 rcases h with⟨rfl,rfl⟩ | ⟨b,L,bX,cv,rfl,cF,dw⟩
 ·exact⟨[],none,⟨rfl,rfl,rfl⟩,(λc e=>by cases e),⟨by simp,λ_ a=>absurd a (hz _)⟩⟩
 ·exact⟨L,some b,⟨rfl,dw.1,cF⟩,λc e=>by cases e;exact⟨bX,cv⟩,dw⟩
theorem dR.same{ah aJ k w:Nat}{v:Value}{f:Nat->List Value}(h:dR H ah aJ v k w f)(e:∀b y,ah<=b->b<aJ->H.get b=some y->aa.get b=some y):dR aa ah aJ v k w f:=
 h.imp id λ⟨b,L,a,c,d,f,g⟩=>⟨b,L,a,c,d,e b _ a c f,g⟩
structure zd(X:ar):Prop extends rn X where
 mB:Has X F.mB C.mB
def aI.fE(ab:aI)(r:bQ):aI:=⟨ab.a,ab.rows++[r]⟩
theorem F6(Z:zd X)(g:bs pm H){p ak:Nat}{ab:aI}{r:bQ}{bP:Value}(hp:pm.may p=true)(hs:ey H p ak ab)(sh:d' (ab.fE r))(aO:∀i,i<ab.rows.length->(ab.row i).j.length<=1000)(aP:r.j.length<=1000)(ao:dk H 0 bP r.j.length 2 (jm r.j)):
 Call X pm F.mB [.pointer (some ⟨p,0,none⟩),.agg (r.cells bP).toArray] H (nE pm p H.next H (ab.fE r)):=by
 refine Call.P Z.mB rfl λ_ hQ=>?_;have bh:ab.a.length<=6:=sh.n;have bh:ab.rows.length+1<=12:=by have:=sh.m;simpa [aI.fE]using this
 obtain⟨_,_,ar,au⟩:=id hs;obtain⟨_,_,e,q1,q2⟩:=id au;cases e;obtain⟨aQ,aR,e1,_⟩:=id q1;obtain⟨b2,aS,j,_⟩:=id q2;obtain⟨vb,vk,e3,_⟩:=id ao;subst e1 j e3;have bh:=g.lt ar;obtain⟨s,ag⟩:∃b,b=H.next:=⟨_,rfl⟩;obtain⟨E,L⟩:∃A,A=H.new (.cells (r.cells (.slice vb r.j.length vk)) (.t T.wQ)):=⟨_,rfl⟩;have k1:K pm H E:=by rw[L];exact K.new g _
 have g1:=k1.h;have n1:E.next=s+1:=by rw[L,ag];rfl
 have av:E.get s=some (.cells (r.cells (.slice vb r.j.length vk)) (.t T.wQ)):=by rw[L,ag];exact b4
 obtain⟨t,ah⟩:∃b,b=E.next:=⟨_,rfl⟩;obtain⟨G,aa⟩:∃A,A=E.new (.cells [.int .i64 0,.string ⟨#[]⟩,.slice none 0 0,.slice none 0 0,.slice none 0 0] (.t T.rK)):=⟨_,rfl⟩;have k2:K pm E G:=by rw[aa];exact K.new g1 _
 have g2:=k2.h;have E:G.next=t+1:=by rw[aa,ah];rfl
 have aU:G.get t=some (.cells [.int .i64 0,.string ⟨#[]⟩,.slice none 0 0,.slice none 0 0,.slice none 0 0] (.t T.rK)):=by rw[aa,ah];exact b4
 have aw:=k2.some g1 av;have ai:=k1.trans k2;have E:=ai.some g ar;have aV:pm.may s=true:=g.may (by omega);have ax:pm.may t=true:=g.may (by omega);simp only[bQ.cells]at L av aw|-;simp[g.pick,g.make,  ptr,<-ag,<-L,<-ah,<-aa,E,bx,bB,-Ak,-Ah];refine aq.of (az:=[.agg #[.slice aQ ab.a.length aR,.slice b2 ab.rows.length aS]]) (by simp) (by simp) (tX Z.tovR g2 (au.ext (ai.ext g)) (by omega) (by omega) aO) ?_;rintro _ u ⟨M,E⟩;have k:=M.h;obtain⟨_,_,m1,m2,aW,e,_,_,c1,c2,c3⟩:=E;subst e;obtain⟨l,e⟩:=c1.form;subst e;obtain⟨N,e⟩:=c2.form;subst e;have aX:=K.trans ai M;have E:=M.next;have ay:=M.some g2 aU;have aY:=M.some g2 aw;obtain⟨d,ad⟩:∃b,b=u.next:=⟨_,rfl⟩;have aB:pm.may d=true:=k.may (by omega);have aZ:∀E,(u.new E).get d=some E:=λE=>by rw[ad];exact b4
 obtain⟨H4,ae⟩:∃A,A=(u.new (.cells [.slice none 0 0,.slice none 0 0] (.t T.qc))).put d (.cells [.slice l ab.a.length ab.a.length,.slice N ab.rows.length ab.rows.length] (.t T.qc)):=⟨_,rfl⟩;have O:K pm u H4:=by rw[ae,ad];exact ic k _ _ (by simp)
 have Q:=O.h;have aD:=K.trans aX O;have E:H4.next=d+1:=by rw[ae,ad];rfl
 have a6:H4.get d=some (.cells [.slice l ab.a.length ab.a.length,.slice N ab.rows.length ab.rows.length] (.t T.qc)):=by rw[ae];exact b1
 have a8:=O.some k ay;have aE:=O.some k aY;simp[k.pick,k.make,ptr,bB,<-ad,aZ,aB,setCells,<-ae,aE,-Aj,-wR];refine aq.of (az:=[.slice vb r.j.length vk]) (by simp) (by simp) (vO (w:=2) (cc:=24) Z.nk Q (ao.imp (aD.ext g) λ_ _ _ h=>h) (by decide) aP (by decide) (λi _ ⟨c,_,e⟩=>by rw[e];rfl)) ?_;rintro _ I ⟨v,f5,c5,a_⟩;have g5:=v.h;have E:=v.next;obtain⟨R,e⟩:=c5.form;subst e;have E:=v.some Q a8;have aG:=v.some Q aE;have ba:=v.some Q a6;obtain⟨m,x⟩:∃A,A=I.put s (.cells [aA r.name,.int .i64 r.kind,.slice R r.j.length r.j.length,aA r.rhs,aA r.kp] (.t T.wQ)):=⟨_,rfl⟩;have E:=K.trans aD v;have aj:K pm H m:=by rw[x];exact aF.put E (by omega) aG (by simp) _
 have J:=aj.h;have aH:m.get s=some (.cells [aA r.name,.int .i64 r.kind,.slice R r.j.length r.j.length,aA r.rhs,aA r.kp] (.t T.wQ)):=by rw[x];exact b1
 have ak:m.get d=some (.cells [.slice l ab.a.length ab.a.length,.slice N ab.rows.length ab.rows.length] (.t T.qc)):=by rw[x,a7 (by omega)];exact ba
 have E:m.next=I.next:=by rw[x];rfl
 obtain⟨xs,z⟩:∃E,E=[aA r.name,.int .i64 r.kind,.slice R r.j.length r.j.length,aA r.rhs,aA r.kp]:=⟨_,rfl⟩;have aJ:Ext u I:=λb y h=>v.some Q (O.some k h);obtain⟨ss,af,aK,v,cl⟩:=c2.gs;have o:∀c,af=some c->m1<=c/\c<m2/\c<u.next:=λc B=>by
  obtain⟨C,D⟩:=v c B;subst B;exact⟨C,D,k.lt aK.2.2⟩
 have gs:lg m (.slice N ab.rows.length ab.rows.length) 5 ab.rows.length ss af:=aK.ext λc y B e=>by
  rw[x,a7 (by have:=(o c B).1;omega)];exact aJ _ _ e
 obtain⟨q,hq⟩:∃q,q=m.next:=⟨_,rfl⟩;obtain⟨H7,S⟩:∃A,A=m.new (.cells xs (.n 5)):=⟨_,rfl⟩;have U:K pm m H7:=by rw[S];exact K.new J _
 have m:=U.h;have v:H7.next=q+1:=by rw[S,hq];rfl
 have bb:H7.get q=some (.cells xs (.n 5)):=by rw[S,hq];exact b4
 obtain⟨H8,a1,a2,a3,E,a5⟩:=zy m (cc:=80) (n:=H.next) (gs.ext λc y _ e=>U.some J e) (xs:=xs) (by rw[z];rfl) (by rw[z];rfl) (by decide) (by omega) (by decide) (by have:=K.next aj;have:=K.next U;omega) (λc B=>⟨by have:=(o c B).1;omega,g.may (by have:=(o c B).1;omega)⟩);rw[v]at a1 a2 E a5;have c:=a3.h;have aL:H8.get d=some (.cells [.slice l ab.a.length ab.a.length,.slice N ab.rows.length ab.rows.length] (.t T.qc)):=(a5 d (by have:=J.lt ak;omega) λe=>by have:=(o _ e).2.2;omega).trans (U.some J ak);obtain⟨f,V⟩:∃A,A=H8.put d (.cells [.slice l ab.a.length ab.a.length,.slice (some ⟨q+1,0,none⟩) (ab.rows.length+1) (ab.rows.length+1)] (.t T.qc)):=⟨_,rfl⟩;have W:K pm H f:=by
  have aM:aF pm H.next H H8:=aF.trans (K.trans aj U) a3;rw[V];exact aF.put aM (by omega) aL (by simp) _
 have g9:=W.h;have m:f.get d=some (.cells [.slice l ab.a.length ab.a.length,.slice (some ⟨q+1,0,none⟩) (ab.rows.length+1) (ab.rows.length+1)] (.t T.qc)):=by rw[V];exact b1
 simp[aG,aV,setCells,<-x,-wR];rw[<-z]at aH;have c:xs.length=5:=by rw[z];rfl
 have v:xs.take 5=xs:=by rw[z];rfl
 have B:setCells [.string ⟨#[]⟩,.int .i64 0,.slice none 0 0,.string ⟨#[]⟩,.string ⟨#[]⟩] 0 xs=some xs:=by rw[z];rfl
 simp[c,v,B, aH,ak,bx,bB,J.pick,J.make,<-hq,<-S,bb,a1,aL,aB,<-V,m,-Ai];have m:I.next<=q:=by omega
 have aN:∀b y,I.get b=some y->b≠s->b≠d->af≠some b->f.get b=some y:=λb y h C D d=>by
  have:=g5.lt h;rw[V,a7 D,a5 b (by omega) d,S,qk (by omega),x,a7 C];exact h
 have al:∀b y,u.get b=some y->b≠s->af≠some b->f.get b=some y:=λb y h C D=>aN b y (aJ _ _ h) C (by have:=k.lt h;omega) D;have bc:f.get (q+1)=some (.cells (ss++xs) (.n 5)):=by rw[V,a7 (by omega)];exact a2.2.2
 have cR:=cl.snoc c;have bd:fC f G.next (.agg #[.slice l ab.a.length ab.a.length,.slice (some ⟨q+1,0,none⟩) (ab.rows.length+1) (ab.rows.length+1)]) (ab.fE r):=by
  refine⟨_,_,rfl,?_,?_⟩
  ·have h:dR f G.next m1 (.slice l ab.a.length ab.a.length) ab.a.length 5 λc=>(ab.af c).cells:=c1.same λb y C D e=>al b y e (by omega) λj=>by have:=(o _ j).1;omega
   exact(h.e (P:=y4 (ab.fE r).a) λi c=>⟨_,aI.jv c,rfl⟩).mono (by omega) λ_ _ _ h=>h
  ·show dk f G.next _ (ab.rows++[r]).length 5 _;rw[ot];refine⟨_,_,rfl,λe=>(by cases e),λa p=>?_⟩;cases p;refine⟨q+1,0,_,ss++xs,rfl,by omega,bc,rfl,by rw[cR.1];simp,λi g=>⟨_,by rw[Nat.zero_add];exact cR.row g,?_⟩⟩;by_cases n:i=ab.rows.length
   ·subst n;refine⟨r,.slice R r.j.length r.j.length,by show(ab.rows++[r])[ab.rows.length]? = some r;simp,by rw[aT rfl,z];rfl,?_⟩;have h:dR f H4.next I.next (.slice R r.j.length r.j.length) r.j.length 2 f5:=c5.same λb y C D e=>aN b y e (by omega) (by omega) λj=>by have:=(o _ j).2.2;omega
    exact(h.e a_).mono (by omega) λ_ _ _ h=>h
   ·have c:i<ab.rows.length:=by simp at g;omega
    refine⟨ab.row i,aW i,by show(ab.rows++[r])[i]? = some (ab.row i);rw[hi c];exact aI.rowAt c,by rw[aC n],?_⟩;exact((c3 i c).qt (λb y _ e=>al b y e (by omega) λj=>by have:=(o _ j).2.1;omega) λ_ _ _ h=>h).mono (by omega) λ_ _ _ h=>h
 refine aq.of (az:=[.pointer (some ⟨p,0,none⟩),.agg #[.slice l ab.a.length ab.a.length,.slice (some ⟨q+1,0,none⟩) (ab.rows.length+1) (ab.rows.length+1)]]) (by simp) (by simp) (Ly Z.totg g9 hp (by omega) (hs.ext (W.ext g)) bd sh) ?_;have an:f.get t=some (.cells [.int .i64 0,.string ⟨#[]⟩,.slice none 0 0,.slice none 0 0,.slice none 0 0] (.t T.rK)):=al _ _ ay (by omega) λe=>by have:=(o _ e).1;omega
 have b:=g9.lt an;have b:=W.next;rintro _ HA (⟨hm,Y,rfl⟩ | ⟨hm,Y,bf,a,aM,rfl,hu,bg⟩)
 ·have b:=Y.some g9 an;have g:K pm H (HA.put t (.cells [.int .i64 0,.string ⟨#[]⟩,.slice none 0 0,.slice none 0 0,.slice none 0 0] (.t T.rK))):=aF.put (K.trans W Y) (by omega) b (by simp) _;simp[setCells,b,ax];refine hQ _ _ _ ⟨.inr rfl,[y2,.bool false],by simp[dG,b1,bx,bB],.inl ⟨hm,g,rfl⟩⟩
 ·obtain⟨_,_,_,rfl,b,c,d⟩:=id hu;obtain⟨i,n,e1,_⟩:=b.1.ex;obtain⟨r,w,j,_⟩:=c.1.ex;obtain⟨F,P,e3,_⟩:=d.1.ex;subst e1 j e3;have X:=Y.some g9 (by omega) an;obtain⟨HB,g⟩:∃A,A=HA.put t (.cells [.int .i64 a.st,aA a.val,.slice i a.x.length n,.slice r a.d.length w,.slice F a.r.length P] (.t T.rK)):=⟨_,rfl⟩;have kB:fO pm p H HB:=by rw[g];exact((K.jx W).trans Y).fin (by omega) X _
  have p:HB.get t=some (.cells [.int .i64 a.st,aA a.val,.slice i a.x.length n,.slice r a.d.length w,.slice F a.r.length P] (.t T.rK)):=by rw[g];exact b1
  simp[setCells,X,ax,<-g];refine hQ _ _ _ ⟨.inr rfl,[.agg #[.int .i64 a.st,aA a.val,.slice i a.x.length n,.slice r a.d.length w,.slice F a.r.length P],.bool true],by simp[dG,p,bx,bB],.inr ⟨hm,kB,?_,a,_,rfl,?_,bg⟩⟩
  ·rw[g];exact(bf.put (by omega) (by omega) _).mono (by omega)
  ·rw[g];exact(hu.put (by omega) _).mono (by omega)
end Go.Dam.C
namespace Go.Dam.C
open Go Go.Dam
variable{X:ar}{pm:Perm}{H aa bL aj:ad}{n:Nat}
structure F5(X:ar):Prop extends oU X where
 km:Has X F.km C.km
abbrev LB:Nat:=T.R6
theorem zZ{m w cap cc ak:Nat}{c:Option Addr}{P:Nat->List Value->Prop}(h:c8 H (.slice c m cap) m w P)(r:fM ak (.slice c m cap))(s:1<=w)(t:m<=1000)(u:cc<=200)(v:∀i cs,P i cs->cs.all c6=true):
 ∃f l,(∀x∈f,∃y,H.get x=some y)/\(0<m->l.length=m*w/\∀i,i<m->∃cs,bx l (i*w) w=some cs/\P i cs)/\
  ∀aa,Ext H aa->∀ah b fx,(ei w (.slice c m cap) λnew n=>eN w cc (.slice none 0 0) new n).runT ⟨ah,fx,some b⟩ aa=some (aP b m,fp aa b m w l,f,iS b m):=by
 obtain⟨_,_,e,d⟩:=h.ex;cases e
 cases c with
 | none=>
   have a:m=0:=by
    apply lW;intro _;obtain⟨_,_,_,_,_,e,_⟩:=d 0 (by omega);cases e
   subst a;refine⟨[],[],(by simp),λh=>absurd h (Nat.lt_irrefl 0),λaa _ ah b fx=>?_⟩;unfold ei;exact z1
 | some _=>
   have k:0<m:=r.2;obtain⟨z,A,y,B,_,f,g,n,_⟩:=d 0 k;cases f;have o:∀i,i<m->∃cs,bx B (A+i*w) w=some cs/\P i cs:=λi a=>by
    obtain⟨_,_,_,_,cs,f,b,h,l,m⟩:=d i a;cases f;rw[g]at b;cases b;rw[n]at h;cases h;exact⟨cs,l,m⟩
   obtain⟨l,C,c,d⟩:=AS k (λi a=>(o i a).imp λ_ h=>h.1);have q:∀i,i<m->∃cs,bx l (i*w) w=some cs/\P i cs:=λi a=>by
    obtain⟨cs,b,f⟩:=o i a;exact⟨cs,by rw[d i a,b],f⟩
   refine⟨[z],l,λx j=>⟨y,by rw[lY.1 j];exact g⟩,λ_=>⟨c,q⟩,λaa j ah b fx=>?_⟩;have D:l.all c6=true:=by
    rw[eD];intro _ b;obtain⟨p,h,rfl⟩:=u5 b;have a:p<m*w:=by omega
    have b:p/w<m:=ox (by rw[dW];exact a);obtain⟨cs,a,c⟩:=q (p/w) b;have b:=(pg a).2;have a:=eD.1 (v _ _ c);have c:p%w<w:=kY _ (by omega);have e:p/w*w+p%w=p:=by rw[dW];exact qM p w
    refine a _ ?_;rw[b];refine List.mem_iff_getElem?.2 ⟨p%w,?_⟩;rw[kZ c,ki,e];exact eu h
   unfold ei;simp only[aQ.runT,j _ _ g,n,C];rw[copyV D s t u]
structure zh(H:ad)(ak cP cA:Nat)(ab:aI)(cn:Nat->Nat):Prop where
 b:ak<=cP/\cP<cA/\cA<H.next/\∀i,i<ab.rows.length->cA<cn i
 c:0<ab.a.length->∃L,H.get cP=some (.cells L (.n 5))/\c0 L 5 ab.a.length λj=>(ab.af j).cells
 w:0<ab.rows.length->∃L,H.get cA=some (.cells L (.n 5))/\c0 L 5 ab.rows.length λi=>(ab.row i).cells (aP (cn i) (ab.row i).j.length)
 v:∀i,i<ab.rows.length->0<(ab.row i).j.length->∃M,H.get (cn i)=some (.cells M (.n 2))/\c0 M 2 (ab.row i).j.length λk=>((ab.row i).j.getD k wN).cells
variable{c7 cb cP cA c3 ct:Nat}{eO cB:Nat->List Value}
theorem L1(w:bs pm aj)(q:oV aj c7 cb cP cA)(s:eo pm aj H c7 cb cP cA c3 ct eO cB)(R:ct<=12){i:Nat}(aJ:i<ct){r:bQ}{bP:Value}{ak:Nat}(B:cB i=r.cells bP)
 (D:gB aj bP r.j) (U:fM ak bP) (V:r.j.length<=1000) {R:b5}
 (E:∀aN aa b,Sub [(15,.int .i64 (i:Int)),(14,.int .i64 (ct:Int)),(2,.pointer (some ⟨c7,0,none⟩)),(3,.pointer (some ⟨cb,0,none⟩))] aN->eo pm aj aa c7 cb cP cA c3 ct eO (λj=>if j=i then r.cells (aP b r.j.length) else cB j)->
  (0<r.j.length->∃M,aa.get b=some (.cells M (.n 2))/\c0 M 2 r.j.length λk=>(r.j.getD k wN).cells)->H.next<=b->(∀b y,b≠cA->H.get b=some y->aa.get b=some y)->R .normal aN aa):
 wp X pm (.code (.seq (.bj [m 17 15,m 4 17]) C.CN)) [(16,.bool true),(15,.int .i64 (i:Int)),(14,.int .i64 (ct:Int)),(2,.pointer (some ⟨c7,0,none⟩)),(3,.pointer (some ⟨cb,0,none⟩))] H [] R:=by
 have g:=s.k.h;have R:=q.bX;have R:=q.cv;have R:=q.cF;have R:=q.dw;have R:=g.lt s.x;obtain⟨L,F,G⟩:=s.w (by omega);have u:=s.x;rw[cO (show 0<ct by omega)]at u;have f:L[i*5+2]? = some bP:=by rw[(G.2 i aJ).2 2 (by decide),B];rfl
 obtain⟨W,Y,rfl,_⟩:=D.ex;have R:gB H (.slice W r.j.length Y) r.j:=D.ext (s.k.ext w);obtain⟨D,I,W,J,N⟩:=zZ (cc:=24) R U (by decide) V (by decide) (λi Z ⟨ab,_,R⟩=>by rw[R];rfl);have ad:∀x∈D,x<H.next:=λx c=>by obtain⟨y,D⟩:=W x c;exact g.lt D
 obtain⟨z,e⟩:∃z,z=H.next:=⟨_,rfl⟩;obtain⟨d,O⟩:∃k,k=r.j.length:=⟨_,rfl⟩;rw[<-O]at N J E;rw[<-O]at f;have P:K pm H (H.up 13):=(K.refl g).up 13;have Q:=N _ (P.ext g) pm.ah (z+9) pm.ok;obtain⟨v,l⟩:∃A,A=fp (H.up 13) (z+9) d 2 I:=⟨_,rfl⟩;have p:K pm H v:=by rw[l];exact aF.fp P (by omega) (by rw[e];exact g.none 9) (by show z+9<H.next+13;omega)
 rw[<-l]at Q;have ae:∀j,j≠9->v.get (z+j)=none:=λj S=>by rw[l,o9 (by omega),e];exact g.none j
 have T:=p.some g F;have D:=p.some g u;obtain⟨A2,t⟩:∃A,A=v.put cA (.cells (L.set (i*5+2) (aP (z+9) d)) (.n 5)):=⟨_,rfl⟩;have s2:eo pm aj A2 c7 cb cP cA c3 ct eO (λj=>if j=i then r.cells (aP (z+9) d) else cB j):=by
  rw[t];exact(s.up p).row q aJ (by decide) (by rw[B];simp[bQ.cells]) (λj _ h=>by simp[h]) T
 have af:∀b i,c6 (aP b i)=true:=λb i=>by unfold aP;split<;>rfl
 have ag:∀b i,(aP b i).cells=#[aP b i]:=λb i=>by unfold aP;split<;>rfl
 have ai:setCells L (i*5+2) [aP (z+9) d]=some (L.set (i*5+2) (aP (z+9) d)):=setCells_one (G.lt aJ (show 2<5 by decide));have al:=λo=>eG (ah:=pm.ah) (ok:=pm.ok) (o:=o) (b:=cA) (by have:=w.ah;omega);have d1:=(jU (a:=[cb]) (b:=iS (z+9) d) (n:=z) (λx c=>by rw[lY.1 c];omega) (λx c=>by rw[rG c];omega)).2;have l4:cb<z:=by omega
 have l5:cA<z:=by omega
 have an:=λj=>(by rw[e];exact g.none j:(H.up 13).get (z+j)=none);have ao:=(by rw[e];exact g.J:(H.up 13).get z=none);simp;refine cy.of g.ah rfl ?_;rw[<-e];simp[b7,an,ao,u,F,aJ,f,Q,ae,T, ag,af,ai,al,<-t,d1,l4,l5,cj,cd,dM,-ei];refine⟨λx c=>.inl (.inl (.inl (by have:=ad x c;omega))),?_⟩;refine E _ _ (z+9) ?_ s2 (λh=>?_) (by omega) λb y hb h=>?_
 ·simp
 ·obtain⟨a,b⟩:=J h;refine⟨I,by rw[t,a7 (by omega),l];exact rF h,c0.of a λj S=>?_⟩;obtain⟨Z,i,ab,f,rfl⟩:=b j S;rw[i,il,f];rfl
 ·rw[t,a7 hb];exact p.some g h
end Go.Dam.C
namespace Go.Dam.C
open Go Go.Dam
variable{X:ar}{pm:Perm}{H aa bL aj:ad}{n:Nat}
theorem L2(hX:F5 X)(g:bs pm H){v:Value}{ab:aI}{ak:Nat}(hv:hC H ak v ab)(W:d' ab)(aC:∀i,i<ab.rows.length->(ab.row i).j.length<=1000):
 Call X pm F.km [v] H λr aa=>K pm H aa/\∃bc br cn,r=.agg #[aP bc ab.a.length,aP br ab.rows.length]/\zh aa H.next bc br ab cn:=by
 refine Call.P hX.km rfl λ_ hQ=>?_;obtain⟨_,_,rfl,hc,hr,aD,aE⟩:=hv;have aO:=W.n;have aO:=W.m;obtain⟨ao,aq,rfl,_⟩:=hc.ex;obtain⟨ar,au,rfl,_⟩:=c8.ex hr;obtain⟨I,C⟩:∃b,b=H.next:=⟨_,rfl⟩;obtain⟨s,J⟩:∃s,s=H.new (.cells [.slice ao ab.a.length aq,.slice ar ab.rows.length au] (.t LB)):=⟨_,rfl⟩;have k1:K pm H s:=by rw[J];exact K.new g _
 have g1:=k1.h;have aG:s.get I=some (.cells [.slice ao ab.a.length aq,.slice ar ab.rows.length au] (.t LB)):=by rw[J,C];exact b4
 obtain⟨p,V⟩:∃b,b=s.next:=⟨_,rfl⟩;obtain⟨a,L⟩:∃a,a=s.new (.cells [.slice none 0 0,.slice none 0 0] (.t tyU1)):=⟨_,rfl⟩;have W:K pm s a:=by rw[L];exact K.new g1 _
 have d:=W.h;have aH:a.get p=some (.cells [.slice none 0 0,.slice none 0 0] (.t tyU1)):=by rw[L,V];exact b4
 have E:=W.some g1 aG;have Y:=k1.trans W;have W:s.next=I+1:=by rw[J,C];rfl
 have s:a.next=p+1:=by rw[L,V];rfl
 obtain⟨fc,lc,W,Z,ad⟩:=zZ (cc:=72) (gC.ext hc (Y.ext g)) aD (by decide) (by omega) (by decide) (λi cs ⟨av,_,f⟩=>by rw[f];rfl);obtain⟨fr,M,ao,ae,af⟩:=zZ (cc:=80) (c8.imp hr (Y.ext g) λ_ _ _ h=>h) aE (by decide) (by omega) (by decide) (λi cs ⟨av,bP,_,f,m,_⟩=>by
  rw[f];obtain⟨_,_,b,_⟩:=m.ex;rw[b];rfl)
 have ag:∀x∈fc,x<a.next:=λx e=>by obtain⟨aq,s⟩:=W x e;exact d.lt s
 have N:∀x∈fr,x<a.next:=λx e=>by obtain⟨aq,s⟩:=ao x e;exact d.lt s
 obtain⟨t,O⟩:∃k,k=ab.a.length:=⟨_,rfl⟩;obtain⟨l,P⟩:∃k,k=ab.rows.length:=⟨_,rfl⟩;rw[<-O]at ad Z E;rw[<-P]at af ae E;obtain⟨z,w⟩:∃z,z=a.next:=⟨_,rfl⟩;have kU:K pm a (a.up 9):=(K.refl d).up 9;have xU:=kU.ext d;obtain⟨Q,D⟩:∃A,A=fp (a.up 9) (z+2) t 5 lc:=⟨_,rfl⟩;have ai:K pm a Q:=by rw[D];exact aF.fp kU (by omega) (by rw[w];exact d.none 2) (by show z+2<a.next+9;omega)
 have c2:=ad _ xU pm.ah (z+2) pm.ok;have aJ:=ai.ext d;obtain⟨R,y⟩:∃A,A=fp Q (z+5) l 5 M:=⟨_,rfl⟩;have S:∀j,j≠2->Q.get (z+j)=none:=λj c=>by rw[D,o9 (by omega),w];exact d.none j
 have s:Q.next=z+9:=by rw[D,tY,w];rfl
 have aw:K pm a R:=by rw[y];exact aF.fp ai (by omega) (S 5 (by decide)) (by omega)
 have c4:=af _ aJ pm.ah (z+5) pm.ok;have T:∀j,j≠2->j≠5->R.get (z+j)=none:=λj c _=>by rw[y,o9 (by omega)];exact S j c
 have aK:R.next=z+9:=by rw[y,tY,s]
 rw[<-D]at c2;rw[<-y]at c4;have aL:=ai.some d E;have s:=aw.some d E;simp[g.pick,g.make,ptr,<-C,<-J,  <-V,<-L,-yh];refine cy.of d.ah rfl ?_;rw[<-w];have ax:=λj=>(by rw[w];exact d.none j:(a.up 9).get (z+j)=none);have ay:=(by rw[w];exact d.J:(a.up 9).get z=none);have az:∀b i,c6 (aP b i)=true:=λb i=>by unfold aP;split<;>rfl
 have aM:∀b i,(aP b i).cells=#[aP b i]:=λb i=>by unfold aP;split<;>rfl
 obtain⟨G,u⟩:∃A,A=R.put (z+7) (.cells [.slice none 0 0,.slice none 0 0] (.t tyU2)):=⟨_,rfl⟩;obtain⟨A4,B⟩:∃A,A=G.put (z+7) (.cells [aP (z+2) t,aP (z+5) l] (.t tyU2)):=⟨_,rfl⟩;have aA:G.get (z+8)=none:=by rw[u,a7 (by omega)];exact T 8 (by decide) (by decide)
 have aj:G.get (z+7)=some (.cells [.slice none 0 0,.slice none 0 0] (.t tyU2)):=by rw[u];exact b1
 have J:=λo=>eG (ah:=pm.ah) (ok:=pm.ok) (o:=o) (b:=z+7) (by have:=d.ah;omega);have L:I<z:=by omega
 have al:∀j k,∀x∈iS (z+j) k,z<=x:=λj k x e=>by rw[rG e];omega
 have C:∀x∈[I],x<z:=λx e=>by rw[lY.1 e];omega
 have s:∀x∈[z+7],z<=x:=λx e=>by rw[lY.1 e];omega
 rw[<-w]at ag N;have d1:=λj k=>(jU C (al j k)).2;have d2:=λj k=>(jU N (al j k)).2;have d3:=(jU C s).2;have d4:=(jU ag s).2;have d5:=(jU N s).2;have d6:=(wK (n:=t) (show z+2≠z+7 by omega)).2;have d7:=(wK (n:=l) (show z+5≠z+7 by omega)).2;have f1:∀b∈fc,b<z∨z+9<=b:=λb U=>.inl (ag b U);have f2:∀b∈fr,b<z∨z+9<=b:=λb U=>.inl (N b U);rw[<-O,<-P];simp[d1, d3,d4,d5,d6,d7,L,dM,b7,ax,ay,E,c2,S,aL,c4,T,aM,az,setCells,bB,Perm.make,Perm.pick,ptr,<-u,aA,aj,J,<-B,cj,cd,-ei,-yh];refine⟨⟨λx e=>.inl (.inl (f1 x e)),λx e=>.inl (.inl (f2 x e))⟩,?_⟩;have e:G.next=z+9:=by rw[u];exact aK
 have s:K pm a G:=by rw[u];exact aF.fill aw (by omega) (T 7 (by decide) (by decide)) (by omega) _
 have aB:K pm a A4:=by rw[B];exact aF.put s (by omega) aj (by simp) _
 have a:A4.next=z+9:=by rw[B];exact e
 have aN:oV H p (z+7) (z+2) (z+5):=⟨by omega,by omega,by omega,by omega⟩;obtain⟨q,an⟩:∃q:Nat->Value,∀j,j<l->(bx M (j*5) 5=some ((ab.row j).cells (q j))/\gB H (q j) (ab.row j).j/\fM ak (q j)):=by
  have:∀j,∃v,j<l->(bx M (j*5) 5=some ((ab.row j).cells v)/\gB H v (ab.row j).j/\fM ak v):=λj=>by
   by_cases c:j<l
   ·obtain⟨cs,b,r,bP,m,rfl,g,i⟩:=(ae (by omega)).2 j c;rw[aI.rowAt (by omega)]at m;cases m;exact⟨bP,λ_=>⟨b,g,i⟩⟩
   ·exact⟨.bool true,λh=>absurd h c⟩
  exact⟨λj=>(this j).choose,λj=>(this j).choose_spec⟩
 have s0:eo pm H A4 p (z+7) (z+2) (z+5) t l (λj=>(ab.af j).cells) (λj=>(ab.row j).cells (q j)):=by
  refine⟨K.trans Y aB,aB.some d aH,by rw[B];exact b1,λh=>⟨lc,?_,c0.of (Z h).1 λj c=>?_⟩,λh=>⟨M,?_,c0.of (ae h).1 λj c=>(an j c).1⟩⟩
  ·rw[B,a7 (by omega),u,a7 (by omega),y,o9 (by omega),D];exact rF h
  ·obtain⟨cs,b,av,m,rfl⟩:=(Z h).2 j c;rw[aI.jv (by omega)]at m;cases m;exact b
  ·rw[B,a7 (by omega),u,a7 (by omega),y];exact rF h
 clear D y u B af ad c2 c4 S T aA aj d1 d2 d3 d4 d5 d6 d7 f1 f2 ax ay al;obtain⟨_,d,_⟩:=k9 (z+2) t;obtain⟨_,e,_⟩:=k9 (z+5) l;have a:=s0.x;rw[d,e]at a;simp[a,-CL,-CM]
 refine eE (σ:=Nat->Nat) l (λ_ _=>[(2,.pointer (some ⟨p,0,none⟩)),(3,.pointer (some ⟨z+7,0,none⟩))])
  (λi cn aa=>eo pm H aa p (z+7) (z+2) (z+5) t l (λj=>(ab.af j).cells) (λj=>if j<i then(ab.row j).cells (aP (cn j) (ab.row j).j.length) else(ab.row j).cells (q j))/\
   ∀j,j<i->(0<(ab.row j).j.length->∃M,aa.get (cn j)=some (.cells M (.n 2))/\c0 M 2 (ab.row j).j.length λk=>((ab.row j).j.getD k wN).cells)/\z+6<=cn j)
  (λ_=>0) (by decide) (by omega) (by simp) ⟨by simpa using s0,λj c=>absurd c (hz _)⟩ (by simp) ?_ ?_
 ·rintro i cn _ a ⟨d,o⟩;refine L1 g aN d (by omega) a (r:=ab.row i) (bP:=q i) (ak:=ak) (by simp) (an i a).2.1 (an i a).2.2 (aC i (by omega)) ?_;intro _ _ b a v n U F;have e:=d.k.h.lt d.x;refine⟨λj=>if j=i then b else cn j,a,?_,λj c=>?_⟩
  ·have f:(λj=>if j=i then(ab.row i).cells (aP b (ab.row i).j.length) else if j<i then(ab.row j).cells (aP (cn j) (ab.row j).j.length) else(ab.row j).cells (q j))=(λj=>if j<i+1 then(ab.row j).cells (aP (if j=i then b else cn j) (ab.row j).j.length) else(ab.row j).cells (q j)):=by
    funext j;by_cases f:j=i
    ·subst f;simp
    ·by_cases m:j<i
     ·simp[f,m,show j<i+1 by omega]
     ·simp[f,m,show ¬j<i+1 by omega]
   rw[<-f];exact v
  ·by_cases f:j=i
   ·subst f;simp only[if_true];exact⟨n,by omega⟩
   ·simp only[f,if_false];obtain⟨a,b⟩:=o j (by omega);exact⟨λh=>(a h).imp λ_ n=>⟨F _ _ (by omega) n.1,n.2⟩,b⟩
 ·rintro cn o ⟨n,r⟩;have v:=n.x;have F:=n.r;have gB:=n.k.h;have aa:pm.may p=true:=g.may (by omega);obtain⟨X,b⟩:∃A,A=o.put p (.cells [aP (z+2) t,aP (z+5) l] (.t tyU1)):=⟨_,rfl⟩;simp[v,F,bx,bB, az,setCells,aa,<-b];refine hQ _ _ _ ?_;have a:X.get p=some (.cells [aP (z+2) t,aP (z+5) l] (.t tyU1)):=by rw[b];exact b1
  have d:K pm H X:=by rw[b];exact aF.put n.k (by omega) F (by simp) _
  simp[dG,a,bx,bB];refine⟨d,z+2,z+5,⟨by rw[O],by rw[P]⟩,cn,⟨by omega,by omega,by have:=d.h.lt a;have:=gB.lt v;rw[b];show z+5<o.next;omega,λi a=>by have:=(r i (by omega)).2;omega⟩,λh=>?_,λh=>?_,λi a h=>?_⟩
  ·obtain⟨L,a,d⟩:=n.c (by omega);exact⟨L,by rw[b,a7 (by omega)];exact a,by rw[<-O];exact d⟩
  ·obtain⟨L,d,a⟩:=n.w (by omega);refine⟨L,by rw[b,a7 (by omega)];exact d,?_⟩;rw[<-P];refine⟨a.1,λj c=>?_⟩;have:=a.2 j c;simp only[c,if_true]at this;exact this
  ·obtain⟨a,_⟩:=r i (by omega);exact(a h).imp λ_ a=>⟨by rw[b,a7 (by omega)];exact a.1,a.2⟩
end Go.Dam.C
namespace Go.Dam.C
open Go Go.Dam
variable{X:ar}{pm dC:Perm}{H aa bL aj:ad}{n:Nat}
structure q'(X:ar):Prop extends zd X where
 km:Has X F.km C.km
 nM:Has X F.nM C.nM
 n6:Has X F.n6 C.n6
theorem q'.r(h:q' X):F5 X:=⟨h.tooU,h.km⟩
abbrev yN:Nat:=T.P2
abbrev yO:Nat:=T.P3
theorem De{ak b k w:Nat}{P:Nat->List Value->Prop}(h:0<k->ak<=b/\∃L f,H.get b=some (.cells L (.n w))/\c0 L w k f/\∀i,i<k->P i (f i)):dk H ak (aP b k) k w P:=by
 by_cases e:k=0
 ·subst e;exact⟨none,0,rfl,λ_=>rfl,λ_ e=>by cases e⟩
 ·obtain⟨a,L,f,c,d,g⟩:=h (by omega);rw[cO (by omega)];exact dR.e (ah:=ak) (aJ:=b+1) (.inr ⟨b,L,a,by omega,rfl,c,d⟩) g
theorem zh.e{ak c d:Nat}{ab:aI}{cn:Nat->Nat}(h:zh H ak c d ab cn):fC H ak (.agg #[aP c ab.a.length,aP d ab.rows.length]) ab:=by
 have e:=h.b;refine⟨_,_,rfl,De λa=>?_,De λa=>?_⟩
 ·obtain⟨L,b,c⟩:=h.c a;exact⟨e.1,L,_,b,c,λ_ b=>⟨_,aI.jv b,rfl⟩⟩
 ·obtain⟨L,c,d⟩:=h.w a;refine⟨by omega,L,_,c,d,λi b=>⟨_,_,aI.rowAt b,rfl,De λa=>?_⟩⟩;obtain⟨M,c,d⟩:=h.v i b a;refine⟨by have:=e.2.2.2 i b;omega,M,_,c,d,λ_ f=>⟨_,?_,rfl⟩⟩;rw[il,eu f];rfl
theorem NM(e:q' X)(g:bs pm H){p ak:Nat}{ab:aI}(m:ey H p ak ab)(n:ab.a.length<=1000)(o:ab.rows.length<=1000)(s:∀i,i<ab.rows.length->(ab.row i).j.length<=1000):
 Call X pm F.nM [.pointer (some ⟨p,0,none⟩)] H λr aa=>K pm H aa/\∃q,r=.pointer (some ⟨q,0,none⟩)/\H.next<=q/\ey aa q H.next ab:=by
 refine Call.P e.nM rfl λ_ t=>?_;obtain⟨_,_,u,f⟩:=m;obtain⟨_,_,v,w,x⟩:=id f;cases v;obtain⟨y,z,A,_⟩:=id w;obtain⟨B,C,D,_⟩:=id x;subst A D;simp[u,bx,bB,-Ac];refine aq.of (az:=[.agg #[.slice y ab.a.length z,.slice B ab.rows.length C]]) (by simp) (by simp) (tX e.tovR g f n o s) ?_;rintro _ b ⟨c,h⟩;have a:=c.h;have e:=c.next;have E:=h.e;obtain⟨i,j,rfl⟩:=h.form;obtain⟨q,k⟩:∃q,q=b.next:=⟨_,rfl⟩;obtain⟨l,d⟩:∃A,A=b.new (.cells [.slice i ab.a.length ab.a.length,.slice j ab.rows.length ab.rows.length] (.t pT)):=⟨_,rfl⟩;have e:K pm b l:=by rw[d];exact K.new a _
 have b:l.get q=some (.cells [.slice i ab.a.length ab.a.length,.slice j ab.rows.length ab.rows.length] (.t pT)):=by rw[d,k];exact b4
 simp[a.pick,a.make,ptr,fill,setCells,bB,<-k,<-d];refine t _ _ _ ?_;simp;exact⟨K.trans c e,by omega,_,_,b,E.ext (e.ext a)⟩
theorem nE.jx{p ak:Nat}{ab:aI}{r:Value}(h:nE pm p ak H ab r aa):fO pm p H aa:=by
 rcases h with⟨_,k,_⟩ | ⟨_,k,_⟩
 ·exact K.jx k
 ·exact k
theorem ey.jx{p q ak:Nat}{ab:aI}(h:ey H q ak ab)(k:fO pm p H aa)(g:bs dC H)(b:q≠p)(a:p<ak):ey aa q ak ab:=by
 obtain⟨c,d,a,e⟩:=h;exact⟨c,d,(k.get q (g.lt a) b).trans a,e.jY λb _ _ e=>(k.get b (g.lt e) (by omega)).trans e⟩
def wi(aa:ad)(ab b:aI)(p m0:Nat)(u:Value)(ok:Bool)(a:hE)(ak:Nat):Prop:=ok=b.I/\iK aa ak u a/\(ok=false/\a=⟨0,[],[],[],[]⟩/\ey aa p m0 ab∨ok=true/\lq b a/\ey aa p ak b)
theorem nE.row{p m0:Nat}{ab b:aI}{r:Value}(g:bs pm H)(h:nE pm p H.next H b r aa)(c:ey H p m0 ab):∃u ok a,r=.tuple #[u,.bool ok]/\wi aa ab b p m0 u ok a H.next/\(ok=false->K pm H aa):=by
 rcases h with⟨bX,k,rfl⟩ | ⟨bX,_,cF,a,u,rfl,hu,OL⟩
 ·have a:h3 aa H.next (.slice none 0 0) []:=⟨iN.nil,λ_ _ _ _ e=>by cases e⟩;exact⟨_,false,⟨0,[],[],[],[]⟩,rfl,⟨bX.symm,⟨_,_,_,rfl,a,a,a⟩,.inl ⟨rfl,rfl,c.ext (k.ext g)⟩⟩,λ_=>k⟩
 ·exact⟨u,true,a,rfl,⟨bX.symm,hu,.inr ⟨rfl,OL,cF⟩⟩,λe=>by cases e⟩
theorem wi.same{ab f c:aI}{p q m0 g ak cf:Nat}{u v:Value}{ok d:Bool}{a b:hE}{i j:ad}(h:wi i ab c p m0 u ok a ak)(i:wi j f c q g v d b cf):ok=d/\a=b:=by
 obtain⟨a,_,k⟩:=h;obtain⟨b,_,l⟩:=i;refine⟨a.trans b.symm,?_⟩
 rcases k with⟨e,Ob,_⟩ | ⟨e,SA,_⟩<;>rcases l with⟨qf,Oc,_⟩ | ⟨qf,SB,_⟩
 ·rw[Ob,Oc]
 ·rw[a,<-b,qf]at e;cases e
 ·rw[a,<-b,qf]at e;cases e
 ·exact lq.uniq SA SB
theorem c8.jY{v:Value}{m w ak:Nat}{P c:Nat->List Value->Prop}(h:c8 H v m w P)(a:fM ak v)(e:∀b y,ak<=b->H.get b=some y->aa.get b=some y)(f:∀i cs,i<m->P i cs->c i cs):c8 aa v m w c:=by
 obtain⟨g,j,rfl,k⟩:=h.ex;refine⟨g,j,rfl,λi b=>?_⟩;obtain⟨d,l,y,m,cs,rfl,n,o,p,q⟩:=k i b;have a:ak<=d:=a.1;exact⟨d,l,y,m,cs,rfl,e _ _ a n,o,p,f i cs b q⟩
theorem hC.jY{ak:Nat}{r:Value}{ab:aI}(h:hC H ak r ab)(e:∀b y,ak<=b->H.get b=some y->aa.get b=some y):hC aa ak r ab:=by
 obtain⟨c,d,rfl,f,g,a,b⟩:=h;exact⟨c,d,rfl,c8.jY f a e λ_ _ _ h=>h,c8.jY g b e λ_ _ _ ⟨r,d,f,g,i,c⟩=>⟨r,d,f,g,c8.jY i c e λ_ _ _ h=>h,c⟩,a,b⟩
end Go.Dam.C
